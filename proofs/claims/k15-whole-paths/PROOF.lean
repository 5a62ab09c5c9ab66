import PyProof.Rows.All
import Wide.All
import OpenK.AllK
import Wide.FinOn
import HandS.ForMost
import HandS.IsInst
import HandS.Wide
import HandS.Zip
import HandS.TupAny
import HandS.TupLe
import HandS.Style
import HandS.Flow
import HandS.Defaults
import KE.GoesEnum
import KE.KStateDown
import Lean
import HandS.Base
import HandS.Call
import HandS.Ends
import HandS.Words
import HandS.Head0
import HandS.Head1
import HandS.Head2
import HandS.HeadEnd
import HandS.HeadHook1
import HandS.HeadHook2
import PySem.Challenge.RW_sidecut_k15_whole_paths_put_otherwise
set_option Elab.async false
set_option linter.all false
set_option maxRecDepth 100000
set_option exponentiation.threshold 20000
/-! numbers: Rat in lowest terms, sizes in bits, roots -/
namespace SC

/-! ### gcd by remainders -/
theorem gcd_step {a b : Int} (ha : 0 ≤ a) (hb : 0 < b) : Int.gcd b (a % b) = Int.gcd a b := by
  obtain ⟨x, rfl⟩ := Int.eq_ofNat_of_zero_le ha
  obtain ⟨y, rfl⟩ := Int.eq_ofNat_of_zero_le (Int.le_of_lt hb)
  show Nat.gcd y ((x : Int) % (y : Int)).natAbs = Nat.gcd x y
  rw [← Int.natCast_emod, Int.natAbs_natCast, Nat.gcd_comm x y, Nat.gcd_rec y x, Nat.gcd_comm]

/-! ### n over d -/
theorem divInt_num {n d : Int} (hd : 0 < d) : n / (Int.gcd n d : Int) = (Rat.divInt n d).num := by
  rw [Rat.num_divInt, Int.sign_eq_one_of_pos hd, Int.one_mul, Int.gcd_comm]
theorem divInt_den {n d : Int} (hd : 0 < d) : d / (Int.gcd n d : Int) = ((Rat.divInt n d).den : Int) := by
  rw [Rat.den_divInt, if_neg (by omega), Int.gcd_comm, Int.natCast_ediv]
  congr 1
  omega
theorem gcd_pos {n d : Int} (hd : 0 < d) : 0 < (Int.gcd n d : Int) := by
  have : 0 < Int.gcd n d := Int.gcd_pos_of_ne_zero_right _ (by omega)
  omega
theorem gcd_le {n d : Int} (hd : 0 < d) : (Int.gcd n d : Int) ≤ d := by
  have h := Int.gcd_dvd_right n d
  exact Int.le_of_dvd hd h

theorem add_di (p q : Rat) : Rat.divInt (p.num * q.den + q.num * p.den) (p.den * q.den) = p + q := by
  rw [Rat.add_def', ← Rat.divInt_ofNat]
  simp
theorem sub_di (p q : Rat) : Rat.divInt (p.num * q.den - q.num * p.den) (p.den * q.den) = p - q := by
  rw [Rat.sub_def', ← Rat.divInt_ofNat]
  simp
theorem mul_di (p q : Rat) : Rat.divInt (p.num * q.num) (p.den * q.den) = p * q := by
  rw [Rat.mul_def', ← Rat.divInt_ofNat]
  simp
theorem div_di (p q : Rat) : Rat.divInt (p.num * q.den) (p.den * q.num) = p / q := by
  rw [Rat.div_def, Rat.inv_def]
  conv => rhs; rw [← Rat.num_divInt_den p]
  rw [Rat.divInt_mul_divInt]
theorem addk_di (p q : Rat) (k : Int) : Rat.divInt (p.num * q.den + k * q.num * p.den) (p.den * q.den) = p + k * q := by
  have h1 : (p.den : Rat) ≠ 0 := by
    have := p.den_nz
    exact_mod_cast this
  have h2 : (q.den : Rat) ≠ 0 := by
    have := q.den_nz
    exact_mod_cast this
  rw [Rat.divInt_eq_div]
  have e1 : p = (p.num : Rat) / (p.den : Rat) := by rw [← Rat.mkRat_eq_div, Rat.mkRat_self]
  have e2 : q = (q.num : Rat) / (q.den : Rat) := by rw [← Rat.mkRat_eq_div, Rat.mkRat_self]
  conv => rhs; rw [e1, e2]
  simp only [Rat.intCast_add, Rat.intCast_mul, Rat.intCast_natCast]
  grind

/-! ### sizes -/
structure Sz (k : Nat) (q : Rat) : Prop where
  n : q.num.natAbs < 2 ^ k
  d : q.den < 2 ^ k
theorem Sz.mono {a b : Nat} {q : Rat} (h : Sz a q) (k : a ≤ b) : Sz b q :=
  ⟨Nat.lt_of_lt_of_le h.n (Nat.pow_le_pow_right (by decide) k), Nat.lt_of_lt_of_le h.d (Nat.pow_le_pow_right (by decide) k)⟩
theorem di_num_le (n : Int) {d : Int} (hd : 0 < d) : (Rat.divInt n d).num.natAbs ≤ n.natAbs := by
  rw [← divInt_num hd]
  have h := gcd_pos (n := n) hd
  rw [Int.natAbs_ediv_of_dvd (Int.gcd_dvd_left n d)]
  exact Nat.div_le_self _ _
theorem di_den_le (n : Int) {d : Int} (hd : 0 < d) : (Rat.divInt n d).den ≤ d.natAbs := by
  have e := divInt_den (n := n) hd
  have h2 : d / (Int.gcd n d : Int) ≤ d := Int.ediv_le_self _ (by omega)
  omega
theorem lt_mul {a b : Int} {x y : Nat} (ha : a.natAbs < 2 ^ x) (hb : b.natAbs < 2 ^ y) : (a * b).natAbs < 2 ^ (x + y) := by
  rw [Int.natAbs_mul, Nat.pow_add]
  exact Nat.mul_lt_mul'' ha hb
theorem lt_add {a b : Int} {x : Nat} (ha : a.natAbs < 2 ^ x) (hb : b.natAbs < 2 ^ x) : (a + b).natAbs < 2 ^ (x + 1) := by
  rw [Nat.pow_succ]
  have := Int.natAbs_add_le a b
  omega
theorem lt_neg {a : Int} {x : Nat} (ha : a.natAbs < 2 ^ x) : (-a).natAbs < 2 ^ x := by
  rw [Int.natAbs_neg]
  exact ha
theorem lt_pow {a : Nat} {x y : Nat} (ha : a < 2 ^ x) (h : x ≤ y) : a < 2 ^ y := Nat.lt_of_lt_of_le ha (Nat.pow_le_pow_right (by decide) h)
theorem di_sz {n d : Int} {x : Nat} (hd : 0 < d) (hn : n.natAbs < 2 ^ x) (h : d.natAbs < 2 ^ x) : Sz x (Rat.divInt n d) :=
  ⟨Nat.lt_of_le_of_lt (di_num_le n hd) hn, Nat.lt_of_le_of_lt (di_den_le n hd) h⟩
theorem den_p (q : Rat) : (0 : Int) < (q.den : Int) := by
  have := q.den_pos
  omega
theorem dd_pos (p q : Rat) : (0 : Int) < (p.den : Int) * (q.den : Int) := Int.mul_pos (den_p p) (den_p q)
theorem Sz.dn {x : Nat} {q : Rat} (h : Sz x q) : ((q.den : Int)).natAbs < 2 ^ x := h.d
theorem Sz.add {a b : Nat} {p q : Rat} (hp : Sz a p) (hq : Sz b q) : Sz (a + b + 1) (p + q) := by
  rw [← add_di]
  refine di_sz (dd_pos p q) (lt_add (lt_mul hp.n hq.dn) ?_) (lt_pow (lt_mul hp.dn hq.dn) (by omega))
  rw [Nat.add_comm a b]
  exact lt_mul hq.n hp.dn
theorem Sz.sub {a b : Nat} {p q : Rat} (hp : Sz a p) (hq : Sz b q) : Sz (a + b + 1) (p - q) := by
  rw [← sub_di, Int.sub_eq_add_neg]
  refine di_sz (dd_pos p q) (lt_add (lt_mul hp.n hq.dn) (lt_neg ?_)) (lt_pow (lt_mul hp.dn hq.dn) (by omega))
  rw [Nat.add_comm a b]
  exact lt_mul hq.n hp.dn
theorem Sz.mul {a b : Nat} {p q : Rat} (hp : Sz a p) (hq : Sz b q) : Sz (a + b) (p * q) := by
  rw [← mul_di]
  exact di_sz (dd_pos p q) (lt_mul hp.n hq.n) (lt_mul hp.dn hq.dn)
theorem Sz.neg {a : Nat} {p : Rat} (hp : Sz a p) : Sz a (-p) := ⟨by rw [Rat.neg_num]; exact lt_neg hp.n, by rw [Rat.neg_den]; exact hp.d⟩
theorem num_pos {q : Rat} (h : 0 < q) : 0 < q.num := by
  have h1 : 0 ≤ q.num := Rat.num_nonneg.mpr (Rat.le_of_lt h)
  have h2 : q.num ≠ 0 := fun e => by
    have := Rat.num_eq_zero.mp e
    rw [this] at h
    exact absurd h (by decide)
  omega
theorem Sz.div {a b : Nat} {p q : Rat} (hp : Sz a p) (hq : Sz b q) (h : 0 < q) : Sz (a + b) (p / q) := by
  rw [← div_di]
  exact di_sz (Int.mul_pos (den_p p) (num_pos h)) (lt_mul hp.n hq.dn) (lt_mul hp.dn hq.n)
theorem Sz.zero {a : Nat} : Sz (a + 1) 0 := ⟨by show 0 < _; exact Nat.pow_pos (by decide), by show 1 < 2 ^ (a + 1); rw [Nat.pow_succ]; have := Nat.pow_pos (n := a) (show 0 < 2 by decide); omega⟩

/-! ### roots -/
theorem sq_num (r : Rat) : (r * r).num = r.num * r.num ∧ ((r * r).den : Int) = (r.den : Int) * r.den := by
  have c : Nat.gcd (r.num * r.num).natAbs (r.den * r.den) = 1 := by
    have h : Nat.Coprime r.num.natAbs r.den := r.reduced
    rw [Int.natAbs_mul]
    exact Nat.Coprime.mul_left (Nat.Coprime.mul_right h h) (Nat.Coprime.mul_right h h)
  have g : Int.gcd (r.num * r.num) ((r.den : Int) * r.den) = 1 := by
    show Nat.gcd (r.num * r.num).natAbs ((r.den : Int) * r.den).natAbs = 1
    rw [Int.natAbs_mul (r.den : Int)]
    exact c
  have hd := dd_pos r r
  rw [← mul_di]
  rw [← divInt_num hd, ← divInt_den hd, g]
  simp
theorem sq_uniq {r s : Rat} (hr : 0 ≤ r) (hs : 0 ≤ s) (h : r * r = s * s) : r = s := by
  have : (r - s) * (r + s) = 0 := by grind
  rcases Rat.mul_eq_zero.mp this with e | e
  · grind
  · have h1 : r = 0 := by grind
    have h2 : s = 0 := by grind
    rw [h1, h2]
/-- the root from 0 on, where there is one -/
noncomputable def rt (q : Rat) : Rat := open Classical in if h : ∃ r : Rat, 0 ≤ r ∧ r * r = q then Classical.choose h else 0
theorem rt_sq {r : Rat} (h : 0 ≤ r) : rt (r * r) = r := by
  have e : ∃ s : Rat, 0 ≤ s ∧ s * s = r * r := ⟨r, h, rfl⟩
  unfold rt
  rw [dif_pos e]
  obtain ⟨h1, h2⟩ := Classical.choose_spec e
  exact sq_uniq h1 h h2
theorem Sz.root {a : Nat} {r : Rat} (h : Sz a (r * r)) : Sz a r := by
  obtain ⟨e1, e2⟩ := sq_num r
  refine ⟨?_, ?_⟩
  · have h1 := h.n
    rw [e1, Int.natAbs_mul] at h1
    rcases Nat.eq_zero_or_pos r.num.natAbs with z | z
    · rw [z]
      exact Nat.pow_pos (by decide)
    · exact Nat.lt_of_le_of_lt (Nat.le_mul_of_pos_left _ z) h1
  · have h1 := h.d
    have e3 : (r * r).den = r.den * r.den := by exact_mod_cast e2
    rw [e3] at h1
    exact Nat.lt_of_le_of_lt (Nat.le_mul_of_pos_left _ r.den_pos) h1
theorem sqrt_step {n lo hi m : Int} (h : lo * lo ≤ n) (h2 : n < hi * hi) : (m * m ≤ n → m * m ≤ n ∧ n < hi * hi) ∧ (¬ m * m ≤ n → lo * lo ≤ n ∧ n < m * m) := ⟨fun z => ⟨z, h2⟩, fun z => ⟨h, by omega⟩⟩
theorem sqrt_end {m lo hi : Int} (h0 : 0 ≤ lo) (hm : 0 ≤ m) (h : lo * lo ≤ m * m) (h2 : m * m < hi * hi) (h3 : lo < hi) (h4 : ¬ hi - lo > 1) : lo = m := by
  have e : hi = lo + 1 := by omega
  subst e
  have a : lo ≤ m := by
    apply Int.not_lt.mp
    intro z
    have := Int.mul_self_lt_mul_self hm z
    omega
  have b : m < lo + 1 := by
    apply Int.not_le.mp
    intro z
    have := Int.mul_le_mul z z (by omega) hm
    omega
  omega
end SC

set_option maxHeartbeats 4000000
/-! a layer over HandS: values that stand for data; what code evaluates to, on data alone -/
namespace SC
open PySem PySem.Spec PyProof.Rows L2

/-! ### weakest readings -/
def WE (X : Cx) (e : Expr) : TE := fun σ H Q => ∃ t, PE X e t ∧ t σ H Q
def WT (X : Cx) (e : Expr) : TT := fun σ H Q => ∃ t, PT X e t ∧ t σ H Q
def WW (X : Cx) (e : Expr) : TT := fun σ H Q => ∃ t, PW X e t ∧ t σ H Q
def WA (X : Cx) (es : List Expr) : TA := fun σ H Q => ∃ t, PA X es t ∧ t σ H Q
def WS (X : Cx) (st : Stmt) : TS := fun D σ H => ∃ t, PS X st t ∧ t D σ H
def WSs (X : Cx) (st : List Stmt) : TS := fun D σ H => ∃ t, PSs X st t ∧ t D σ H
def WI (X : Cx) (tg iter : Expr) : TI := fun σ H R => ∃ t, PI X tg iter t ∧ t σ H R
section
variable {X : Cx}
theorem pe_W {e : Expr} : PE X e (WE X e) := ⟨fun pins s σ H Q I ⟨_, ht, h⟩ => ht.run pins s σ H Q I h⟩
theorem pt_W {e : Expr} : PT X e (WT X e) := ⟨fun pins s σ H Q I ⟨_, ht, h⟩ => ht.run pins s σ H Q I h⟩
theorem pw_W {e : Expr} : PW X e (WW X e) := ⟨fun w pins s σ H Q I ⟨_, ht, h⟩ => ht.run w pins s σ H Q I h⟩
theorem pa_W {es : List Expr} : PA X es (WA X es) := ⟨fun pos pins s σ H Q I ⟨_, ht, h⟩ => ht.run pos pins s σ H Q I h⟩
theorem ps_W {st : Stmt} : PS X st (WS X st) := ⟨fun pins s σ H D I ⟨_, ht, h⟩ => ht.run pins s σ H D I h⟩
theorem pss_W {st : List Stmt} : PSs X st (WSs X st) := ⟨fun pins s σ H D I ⟨_, ht, h⟩ => ht.run pins s σ H D I h⟩
theorem pi_W {tg iter : Expr} : PI X tg iter (WI X tg iter) := ⟨fun pins s σ H R I ⟨_, ht, h⟩ => ht.run pins s σ H R I h⟩
end

/-! ### values that stand for data -/
mutual
inductive Dq (K : PySem.W.Frag) (H : Hp) : V → PyData → Prop
  | non : Dq K H .non .none
  | bl (b : Bool) : Dq K H (.bl b) (.bool b)
  | int (i : Int) : Dq K H (.int i) (.int i)
  | str (x : Str) : Dq K H (.str x) (.str x)
  | lst {a : Addr} {xs : List V} {ds : List PyData} : H a = some (.lst xs) → DqA K H xs ds → Dq K H (.ref a) (.list ds)
  | tup {a : Addr} {xs : List V} {ds : List PyData} : SqT K H a xs → DqA K H xs ds → Dq K H (.ref a) (.tuple ds)
inductive DqA (K : PySem.W.Frag) (H : Hp) : List V → List PyData → Prop
  | nil : DqA K H [] []
  | cons {v : V} {vs : List V} {d : PyData} {ds : List PyData} : Dq K H v d → DqA K H vs ds → DqA K H (v :: vs) (d :: ds)
end
section
variable {K : PySem.W.Frag} {H H' : Hp}
theorem sqT_mono {a : Addr} {xs : List V} (e : Same H H') (h : SqT K H a xs) : SqT K H' a xs := by
  rcases h with (h | ⟨o, h⟩) | h
  · exact .inl (.inl (e _ _ h))
  · exact .inl (.inr ⟨o, e _ _ h⟩)
  · exact .inr h
mutual
theorem Dq.mono (e : Same H H') : ∀ (d : PyData) (v : V), Dq K H v d → Dq K H' v d
  | .none, _, h => by cases h; exact .non
  | .bool _, _, h => by cases h; exact .bl _
  | .int _, _, h => by cases h; exact .int _
  | .str _, _, h => by cases h; exact .str _
  | .list ds, _, h => by
    cases h with
    | lst h1 h2 => exact .lst (e _ _ h1) (DqA.mono e ds _ h2)
  | .tuple ds, _, h => by
    cases h with
    | tup h1 h2 => exact .tup (sqT_mono e h1) (DqA.mono e ds _ h2)
  | .dict _, _, h => by cases h
theorem DqA.mono (e : Same H H') : ∀ (ds : List PyData) (vs : List V), DqA K H vs ds → DqA K H' vs ds
  | [], _, h => by cases h; exact .nil
  | d :: ds, _, h => by
    cases h with
    | cons h1 h2 => exact .cons (Dq.mono e d _ h1) (DqA.mono e ds _ h2)
end
mutual
theorem Dq.dp : ∀ (d : PyData) (v : V), Dq K H v d → Dp K H v d
  | .none, _, h => by cases h; exact .non
  | .bool _, _, h => by cases h; exact .bl _
  | .int _, _, h => by cases h; exact .int _
  | .str _, _, h => by cases h; exact .str _
  | .list ds, _, h => by
    cases h with
    | lst h1 h2 => exact .lst (SqL.of h1) (DqA.dp ds _ h2)
  | .tuple ds, _, h => by
    cases h with
    | tup h1 h2 => exact .tup h1 (DqA.dp ds _ h2)
  | .dict _, _, h => by cases h
theorem DqA.dp : ∀ (ds : List PyData) (vs : List V), DqA K H vs ds → DpAll K H vs ds
  | [], _, h => by cases h; exact .nil
  | d :: ds, _, h => by
    cases h with
    | cons h1 h2 => exact .cons (Dq.dp d _ h1) (DqA.dp ds _ h2)
end
/-! tuples alone: kept where tuples are kept -/
structure Kept (H H' : Hp) : Prop where
  t : ∀ a xs, H a = some (.tup xs) → H' a = some (.tup xs)
  f : ∀ a o u, H a = some (.frz o u) → H' a = some (.frz o u)
theorem Kept.of_same (e : Same H H') : Kept H H' := ⟨fun a xs h => e a _ h, fun a o u h => e a _ h⟩
theorem Kept.refl : Kept H H := ⟨fun _ _ h => h, fun _ _ _ h => h⟩
theorem Kept.trans {H1 : Hp} (a : Kept H H1) (b : Kept H1 H') : Kept H H' := ⟨fun x xs h => b.t x xs (a.t x xs h), fun x o u h => b.f x o u (a.f x o u h)⟩
theorem Kept.upd {a : Addr} {xs ys : List V} (h : H a = some (.lst xs)) : Kept H (upd H a (.lst ys)) :=
  ⟨fun b zs e => by rw [upd_ne (ne_of e h (by intro z; cases z))]; exact e, fun b o u e => by rw [upd_ne (ne_of e h (by intro z; cases z))]; exact e⟩
theorem sqT_kept {a : Addr} {xs : List V} (e : Kept H H') (h : SqT K H a xs) : SqT K H' a xs := by
  rcases h with (h | ⟨o, h⟩) | h
  · exact .inl (.inl (e.t _ _ h))
  · exact .inl (.inr ⟨o, e.f _ _ _ h⟩)
  · exact .inr h
mutual
def tupd : PyData → Bool
  | .none | .bool _ | .int _ | .str _ => true
  | .list _ => false
  | .tuple ds => tupdA ds
  | .dict _ => false
def tupdA : List PyData → Bool
  | [] => true
  | d :: ds => tupd d && tupdA ds
end
mutual
theorem Dq.kept (e : Kept H H') : ∀ (d : PyData) (v : V), tupd d = true → Dq K H v d → Dq K H' v d
  | .none, _, _, h => by cases h; exact .non
  | .bool _, _, _, h => by cases h; exact .bl _
  | .int _, _, _, h => by cases h; exact .int _
  | .str _, _, _, h => by cases h; exact .str _
  | .list ds, _, t, h => by unfold tupd at t; cases t
  | .tuple ds, _, t, h => by
    unfold tupd at t
    cases h with
    | tup h1 h2 => exact .tup (sqT_kept e h1) (DqA.kept e ds _ t h2)
  | .dict _, _, _, h => by cases h
theorem DqA.kept (e : Kept H H') : ∀ (ds : List PyData) (vs : List V), tupdA ds = true → DqA K H vs ds → DqA K H' vs ds
  | [], _, _, h => by cases h; exact .nil
  | d :: ds, _, t, h => by
    unfold tupdA at t
    obtain ⟨t1, t2⟩ := Bool.and_eq_true_iff.mp t
    cases h with
    | cons h1 h2 => exact .cons (Dq.kept e d _ t1 h1) (DqA.kept e ds _ t2 h2)
end
theorem tupdA_all {ds : List PyData} : tupdA ds = true ↔ ∀ d ∈ ds, tupd d = true := by
  induction ds with
  | nil => simp [tupdA]
  | cons d ds ih => simp [tupdA, ih]

theorem DqA.len {vs : List V} {ds : List PyData} (h : DqA K H vs ds) : vs.length = ds.length := by
  induction ds generalizing vs with
  | nil => cases h; rfl
  | cons d ds ih => cases h with | cons h1 h2 => simp [ih h2]
theorem DqA.get {vs : List V} {ds : List PyData} (h : DqA K H vs ds) {i : Nat} {d : PyData} (e : ds[i]? = some d) : ∃ v, vs[i]? = some v ∧ Dq K H v d := by
  induction ds generalizing vs i with
  | nil => simp at e
  | cons d' ds ih =>
    cases h with
    | cons h1 h2 =>
      cases i with
      | zero =>
        simp at e
        subst e
        exact ⟨_, rfl, h1⟩
      | succ i =>
        simp at e
        obtain ⟨v, e1, e2⟩ := ih h2 e
        exact ⟨v, by simpa using e1, e2⟩
theorem DqA.getV {vs : List V} {ds : List PyData} (h : DqA K H vs ds) {i : Nat} {v : V} (e : vs[i]? = some v) : ∃ d, ds[i]? = some d ∧ Dq K H v d := by
  have hi := (List.getElem?_eq_some_iff.mp e).1
  rw [h.len] at hi
  obtain ⟨w, e1, e2⟩ := h.get (List.getElem?_eq_getElem hi)
  rw [e] at e1
  cases e1
  exact ⟨_, List.getElem?_eq_getElem hi, e2⟩
theorem DqA.of_get : ∀ {ds : List PyData} {vs : List V}, vs.length = ds.length → (∀ (i : Nat) v d, vs[i]? = some v → ds[i]? = some d → Dq K H v d) → DqA K H vs ds
  | [], [], _, _ => .nil
  | d :: ds, v :: vs, hl, h => .cons (h 0 v d rfl rfl) (DqA.of_get (by simpa using hl) fun i w e h1 h2 => h (i + 1) w e (by simpa using h1) (by simpa using h2))
  | [], _ :: _, hl, _ => by simp at hl
  | _ :: _, [], hl, _ => by simp at hl
theorem DqA.append {vs ws : List V} {ds es : List PyData} (h : DqA K H vs ds) (k : DqA K H ws es) : DqA K H (vs ++ ws) (ds ++ es) := by
  induction ds generalizing vs with
  | nil => cases h; exact k
  | cons d ds ih => cases h with | cons h1 h2 => exact .cons h1 (ih h2)
theorem DqA.take {vs : List V} {ds : List PyData} (h : DqA K H vs ds) (n : Nat) : DqA K H (vs.take n) (ds.take n) := by
  refine DqA.of_get (by simp [h.len]) fun i v d h1 h2 => ?_
  rw [List.getElem?_take] at h1 h2
  split at h1
  · rename_i hi
    rw [if_pos hi] at h2
    obtain ⟨w, e1, e2⟩ := h.get h2
    rw [h1] at e1
    cases e1
    exact e2
  · cases h1
theorem DqA.drop {vs : List V} {ds : List PyData} (h : DqA K H vs ds) (n : Nat) : DqA K H (vs.drop n) (ds.drop n) := by
  refine DqA.of_get (by simp [h.len]) fun i v d h1 h2 => ?_
  rw [List.getElem?_drop] at h1 h2
  obtain ⟨w, e1, e2⟩ := h.get h2
  rw [h1] at e1
  cases e1
  exact e2
theorem DqA.reverse {vs : List V} {ds : List PyData} (h : DqA K H vs ds) : DqA K H vs.reverse ds.reverse := by
  induction ds generalizing vs with
  | nil => cases h; exact .nil
  | cons d ds ih =>
    cases h with
    | cons h1 h2 =>
      rw [List.reverse_cons, List.reverse_cons]
      exact (ih h2).append (.cons h1 .nil)
theorem DqA.strs {vs : List V} {xs : List Str} (h : DqA K H vs (xs.map .str)) : vs = xs.map V.str := by
  induction xs generalizing vs with
  | nil => cases h; rfl
  | cons x xs ih =>
    cases h with
    | cons h1 h2 =>
      cases h1
      rw [ih h2]
      rfl
theorem DqA.of_strs (xs : List Str) : DqA K H (xs.map V.str) (xs.map .str) := by
  induction xs with
  | nil => exact .nil
  | cons x xs ih => exact .cons (.str x) ih
theorem DqA.bools {vs : List V} {xs : List Bool} (h : DqA K H vs (xs.map .bool)) : vs = xs.map V.bl := by
  induction xs generalizing vs with
  | nil => cases h; rfl
  | cons x xs ih =>
    cases h with
    | cons h1 h2 =>
      cases h1
      rw [ih h2]
      rfl
end

/-! ### the names' data -/
abbrev Rho := List (Option PyData)
structure EnvD (K : PySem.W.Frag) (H : Hp) (σ : L2.St) (ρ : Rho) : Prop where
  len : σ.length = ρ.length
  get : ∀ (i : Nat) d, ρ[i]? = some (some d) → ∃ v, σ[i]? = some (some v) ∧ Dq K H v d
section
variable {K : PySem.W.Frag} {H H' : Hp} {σ : L2.St} {ρ : Rho}
theorem EnvD.mono (e : Same H H') (h : EnvD K H σ ρ) : EnvD K H' σ ρ := ⟨h.len, fun i d hi => let ⟨v, h1, h2⟩ := h.get i d hi; ⟨v, h1, h2.mono e⟩⟩
theorem EnvD.set {v : V} {d : PyData} (h : EnvD K H σ ρ) (hv : Dq K H v d) (i : Nat) : EnvD K H (σ.set i (some v)) (ρ.set i (some d)) := by
  refine ⟨by simp [h.len], fun j e hj => ?_⟩
  by_cases hij : i = j
  · subst hij
    by_cases hi : i < ρ.length
    · rw [List.getElem?_set_self hi] at hj
      cases hj
      exact ⟨v, List.getElem?_set_self (by rw [h.len]; exact hi), hv⟩
    · rw [List.getElem?_eq_none (by simpa using hi)] at hj
      cases hj
  · rw [List.getElem?_set_ne hij] at hj ⊢
    exact h.get j e hj
theorem EnvD.forget (h : EnvD K H σ ρ) (i : Nat) : EnvD K H σ (ρ.set i none) := by
  refine ⟨by simp [h.len], fun j e hj => ?_⟩
  by_cases hij : i = j
  · subst hij
    by_cases hi : i < ρ.length
    · rw [List.getElem?_set_self hi] at hj
      cases hj
    · rw [List.getElem?_eq_none (by simpa using hi)] at hj
      cases hj
  · rw [List.getElem?_set_ne hij] at hj
    exact h.get j e hj
theorem EnvD.weak {ρ' : Rho} (h : EnvD K H σ ρ) (hl : ρ'.length = ρ.length) (w : ∀ (i : Nat) d, ρ'[i]? = some (some d) → ρ[i]? = some (some d)) : EnvD K H σ ρ' := ⟨h.len.trans hl.symm, fun i d e => h.get i d (w i d e)⟩
def wipeD (ρ : Rho) : List Nat → Rho
  | [] => ρ
  | v :: vs => (wipeD ρ vs).set v none
theorem EnvD.wipe (h : EnvD K H σ ρ) : ∀ vs : List Nat, EnvD K H (wipe σ vs) (wipeD ρ vs)
  | [] => h
  | v :: vs => by
    have ih := EnvD.wipe h vs
    unfold L2.wipe wipeD
    refine ⟨by simp [ih.len], fun j e hj => ?_⟩
    by_cases hij : v = j
    · subst hij
      by_cases hi : v < (wipeD ρ vs).length
      · rw [List.getElem?_set_self hi] at hj
        cases hj
      · rw [List.getElem?_eq_none (by simpa using hi)] at hj
        cases hj
    · rw [List.getElem?_set_ne hij] at hj ⊢
      exact ih.get j e hj
def startD (N : List Str) (ds : List PyData) : Rho := ds.map some ++ List.replicate (N.length - ds.length) none
theorem EnvD.start {N : List Str} {vs : List V} {ds : List PyData} (h : DqA K H vs ds) : EnvD K H (L2.start N vs) (startD N ds) := by
  refine ⟨by simp [L2.start, startD, h.len], fun i d hi => ?_⟩
  unfold startD at hi
  by_cases hl : i < ds.length
  · rw [List.getElem?_append_left (by simpa using hl), List.getElem?_map] at hi
    cases e : ds[i]? with
    | none => rw [e] at hi; cases hi
    | some d' =>
      rw [e] at hi
      cases hi
      obtain ⟨v, e1, e2⟩ := h.get e
      refine ⟨v, ?_, e2⟩
      unfold L2.start
      rw [List.getElem?_append_left (by simpa [h.len] using hl), List.getElem?_map, e1]
      rfl
  · rw [List.getElem?_append_right (by simpa using hl), List.getElem?_replicate] at hi
    split at hi <;> cases hi
end

/-! ### evaluation on data -/
def ED (K : PySem.W.Frag) (te : TE) (ρ : Rho) (d : PyData) : Prop := ∀ σ H, EnvD K H σ ρ → ∀ Q : VK, (∀ v H', Same H H' → Dq K H' v d → Q v H') → te σ H Q
def EDA (K : PySem.W.Frag) (ta : TA) (ρ : Rho) (ds : List PyData) : Prop := ∀ σ H, EnvD K H σ ρ → ∀ Q : List V → Hp → Prop, (∀ vs H', Same H H' → DqA K H' vs ds → Q vs H') → ta σ H Q
def ET (K : PySem.W.Frag) (tt : TT) (ρ : Rho) (b : Bool) : Prop := ∀ σ H, EnvD K H σ ρ → ∀ Q : Bool → Hp → Prop, (∀ H', Same H H' → Q b H') → tt σ H Q
def RD (K : PySem.W.Frag) (r : R2) (a b d : PyData) : Prop := ∀ H v w, Dq K H v a → Dq K H w b → ∀ Q : VK, (∀ z H', Same H H' → Dq K H' z d → Q z H') → r v w H Q
def RU (K : PySem.W.Frag) (r : V → Hp → VK → Prop) (a d : PyData) : Prop := ∀ H v, Dq K H v a → ∀ Q : VK, (∀ z H', Same H H' → Dq K H' z d → Q z H') → r v H Q
def RL (K : PySem.W.Frag) (r : List V → Hp → VK → Prop) (ds : List PyData) (d : PyData) : Prop := ∀ H vs, DqA K H vs ds → ∀ Q : VK, (∀ z H', Same H H' → Dq K H' z d → Q z H') → r vs H Q
/-- what is walked, as data -/
def ItD (K : PySem.W.Frag) (J : It) (H0 : Hp) (ds : List PyData) : Prop := ∀ (i : Nat) H, Same H0 H → (∀ d, ds[i]? = some d → J.go i H ∧ ∀ x H', J.yld i H x H' → Same H H' ∧ Dq K H' x d) ∧ (ds.length ≤ i → J.stop i H)
def ID (K : PySem.W.Frag) (wi : TI) (ρ : Rho) (ds : List PyData) : Prop := ∀ σ H, EnvD K H σ ρ → ∀ R : It → Hp → Prop, (∀ J H1, Same H H1 → ItD K J H1 ds → R J H1) → wi σ H R
abbrev PD (X : Cx) (e : Expr) (ρ : Rho) (d : PyData) : Prop := ED X.K (WE X e) ρ d
abbrev PDA (X : Cx) (es : List Expr) (ρ : Rho) (ds : List PyData) : Prop := EDA X.K (WA X es) ρ ds
abbrev PDT (X : Cx) (e : Expr) (ρ : Rho) (b : Bool) : Prop := ET X.K (WT X e) ρ b
abbrev PDW (X : Cx) (e : Expr) (ρ : Rho) (b : Bool) : Prop := ET X.K (WW X e) ρ b
abbrev PDI (X : Cx) (tg iter : Expr) (ρ : Rho) (ds : List PyData) : Prop := ID X.K (WI X tg iter) ρ ds

section
variable {X : Cx} {ρ : Rho} {d d1 d2 : PyData} {ds : List PyData} {e a b : Expr} {es : List Expr} {pos : Pos} {k : Bool}
theorem PD.mk {t : TE} (h : PE X e t) (hd : ED X.K t ρ d) : PD X e ρ d := fun σ H E Q q => ⟨t, h, hd σ H E Q q⟩
theorem PDA.mk {t : TA} (h : PA X es t) (hd : EDA X.K t ρ ds) : PDA X es ρ ds := fun σ H E Q q => ⟨t, h, hd σ H E Q q⟩
theorem PDT.mk {t : TT} (h : PT X e t) (hd : ET X.K t ρ k) : PDT X e ρ k := fun σ H E Q q => ⟨t, h, hd σ H E Q q⟩
theorem PDW.mk {t : TT} (h : PW X e t) (hd : ET X.K t ρ k) : PDW X e ρ k := fun σ H E Q q => ⟨t, h, hd σ H E Q q⟩
theorem PDI.mk {t : TI} {tg : Expr} (h : PI X tg e t) (hd : ID X.K t ρ ds) : PDI X tg e ρ ds := fun σ H E Q q => ⟨t, h, hd σ H E Q q⟩
theorem PD.eq (h : PD X e ρ d) (he : d = d1) : PD X e ρ d1 := he ▸ h
theorem PDT.eq {k' : Bool} (h : PDT X e ρ k) (he : k = k') : PDT X e ρ k' := he ▸ h
theorem ed_op {r : R2} {ta tb : TE} (ha : ED X.K ta ρ d1) (hb : ED X.K tb ρ d2) (hr : RD X.K r d1 d2 d) : ED X.K (tOp r ta tb) ρ d := fun σ H E Q q =>
  ha σ H E _ fun v H1 s1 hv => hb σ H1 (E.mono s1) _ fun w H2 s2 hw => hr H2 v w (hv.mono s2) hw Q fun z H3 s3 hz => q z H3 (s1.trans (s2.trans s3)) hz
theorem ed_un {r : V → Hp → VK → Prop} {ta : TE} (ha : ED X.K ta ρ d1) (hr : RU X.K r d1 d) : ED X.K (tUn r ta) ρ d := fun σ H E Q q =>
  ha σ H E _ fun v H1 s1 hv => hr H1 v hv Q fun z H3 s3 hz => q z H3 (s1.trans s3) hz
theorem ed_cb {r : List V → Hp → VK → Prop} {ta : TA} (ha : EDA X.K ta ρ ds) (hr : RL X.K r ds d) : ED X.K (tCB r ta) ρ d := fun σ H E Q q =>
  ha σ H E _ fun v H1 s1 hv => hr H1 v hv Q fun z H3 s3 hz => q z H3 (s1.trans s3) hz
theorem ed_c {v : V} (h : ∀ H, Dq X.K H v d) : ED X.K (tC v) ρ d := fun σ H E Q q => q v H (Same.refl H) (h H)
theorem et_test {te : TE} (h : ED X.K te ρ (.bool k)) : ET X.K (tTest te) ρ k := fun σ H E Q q => h σ H E _ fun v H1 s1 hv => by
  cases hv
  exact ⟨k, rfl, q H1 s1⟩
theorem et_B {te : TE} (h : ED X.K te ρ (.bool k)) : ET X.K (tB te) ρ k := fun σ H E Q q => h σ H E _ fun v H1 s1 hv => by
  cases hv
  exact ⟨k, rfl, q H1 s1⟩
end

/-! ### the context -/
structure Ctx (X : Cx) (N : List Str) (sc : Scope) (k : Nat) : Prop where
  hN : X.N = N
  hs : X.env.scope = sc
  calm : X.calm = true
  room : Room k X.A
  nd : N.Nodup
/-- in a def's own body -/
structure DCtx (X : Cx) (N : List Str) (sc : Scope) (k : Nat) : Prop extends Ctx X N sc k where
  fn : ∀ x, X.fn x = true
  never : PassesOwn (model X.prog X.w) X.A X.env X.xe
  fk : sc.kind = .function
section
variable {X : Cx} {N : List Str} {sc : Scope} {k : Nat}
theorem Ctx.gl (c : Ctx X N sc k) {x : Str} (h : sc.names.lookup x = some .globalImplicit) : Gl X x := by
  unfold Gl
  show X.env.scope.names.lookup x = _
  rw [c.hs]
  exact h
theorem Ctx.vis (c : Ctx X N sc k) {x : Str} (h : Vis sc x) : Vis X.env.scope x := by
  rw [c.hs]
  exact h
theorem Ctx.loc (c : Ctx X N sc k) {x : Str} (h : Loc sc x) : Loc X.env.scope x := by
  rw [c.hs]
  exact h
theorem Ctx.lc (c : Ctx X N sc k) {x : Str} (h : sc.names.lookup x = some .local) : X.env.scope.names.lookup x = some .local := by
  rw [c.hs]
  exact h
theorem Ctx.hu (c : Ctx X N sc k) : X.A.units + 1 < cLine := hu_of c.room
theorem Ctx.nd' (c : Ctx X N sc k) : X.N.Nodup := by
  rw [c.hN]
  exact c.nd
theorem DCtx.bk (c : DCtx X N sc k) : X.env.blockKind = .function := by
  have h : X.env.scope.kind = .function := by
    rw [c.hs]
    exact c.fk
  unfold Env.blockKind
  rw [h]
  rfl

/-! ### a def called -/
def spP (K : PySem.W.Frag) (P : List PyData → PyData → Prop) : Sp := fun vs H Q _ => ∃ ds d, P ds d ∧ DqA K H vs ds ∧ ∀ v H', Same H H' → Dq K H' v d → Q v H'
/-- the def x keeps the promise sp, at level k -/
def Kn (P : Program) (w : World) (K : PySem.W.Frag) (mg : Str → Option Value) (base : Heap) (x : Str) (ps : List Str) (sp : Sp) (k : Nat) : Prop :=
  ∃ f fd, FnOk P w K mg base CX0 k f fd ps sp ∧ mg x = some (.ref f) ∧ PySem.W.keepIn K (.ref f) = true ∧ Binds K fd ps []
abbrev KnX (X : Cx) (x : Str) (ps : List Str) (sp : Sp) (k : Nat) : Prop := Kn X.prog X.w X.K X.mg X.base x ps sp k
theorem we_call {x : Str} {ps : List Str} {sp : Sp} {j : Nat} {p pos : Pos} {e : Expr} {es : List Expr} {σ : L2.St} {H : Hp} {Q : VK} (c : Ctx X N sc k) (g : KnX X x ps sp j) (h : WA X (e :: es) σ H fun vs H1 => sp vs H1 Q E0)
    (hj : j ≤ k := by decide) (hg : sc.names.lookup x = some .globalImplicit := by rfl) (hdb : (x == ("__debug__" : Str)) = false := by decide) (he : starEach (e :: es) X.env = (false, eval e X.env) :: starEach es X.env := by rfl) (hpl : (backTo pos (starEach es X.env)).any (·.1) = false := by rfl) :
    WE X (.Call (.Name x p) (e :: es) [] pos) σ H Q := by
  obtain ⟨f, fd, F, hm, hk, hb⟩ := g
  refine ⟨_, pe_call F (c.room.mono hj) (c.gl hg) hm hk hb .nil pass0 pa_W hdb he hpl, ?_⟩
  show WA X (e :: es) σ H fun vs H1 => sp (vs ++ []) H1 Q E0
  have e0 : (fun (vs : List V) (H1 : Hp) => sp (vs ++ []) H1 Q E0) = fun vs H1 => sp vs H1 Q E0 := by
    funext vs H1
    rw [List.append_nil]
  rw [e0]
  exact h
theorem pd_call {x : Str} {ps : List Str} {P : List PyData → PyData → Prop} {j : Nat} {p pos : Pos} {e : Expr} {es : List Expr} {ρ : Rho} {ds : List PyData} {d : PyData} (c : Ctx X N sc k) (g : KnX X x ps (spP X.K P) j) (ha : PDA X (e :: es) ρ ds) (hp : P ds d)
    (hj : j ≤ k := by decide) (hg : sc.names.lookup x = some .globalImplicit := by rfl) (hdb : (x == ("__debug__" : Str)) = false := by decide) (he : starEach (e :: es) X.env = (false, eval e X.env) :: starEach es X.env := by rfl) (hpl : (backTo pos (starEach es X.env)).any (·.1) = false := by rfl) :
    PD X (.Call (.Name x p) (e :: es) [] pos) ρ d := fun σ H E Q q =>
  we_call c g (ha σ H E _ fun vs H1 s1 hv => ⟨ds, d, hp, hv, fun v H2 s2 h2 => q v H2 (s1.trans s2) h2⟩) hj hg hdb he hpl

/-! ### expressions -/
variable {ρ : Rho} {d d1 d2 d3 : PyData} {ds : List PyData} {e a b : Expr} {es : List Expr} {pos : Pos} {i j : Int} {t u : Bool}
theorem pd_var {x : Str} (c : Ctx X N sc k) (n : Nat) (hN : N[n]? = some x := by rfl) (hv : Vis sc x := by first | exact Or.inl rfl | exact Or.inr (Or.inl rfl) | exact Or.inr (Or.inr rfl)) (hρ : ρ[n]? = some (some d) := by rfl)
    (hd : (x == ("__debug__" : Str)) = false := by decide) (hcd : (x == ("__classdict__" : Str)) = false := by decide) : PD X (.Name x pos) ρ d :=
  PD.mk (pe_var (by rw [c.hN]; exact hN) (c.vis hv) hd hcd) fun σ H E Q q => by
    obtain ⟨v, h1, h2⟩ := E.get n d hρ
    exact ⟨v, h1, q v H (Same.refl H) h2⟩
theorem pd_int {j : Nat} : PD X (.Constant (.int i) j pos) ρ (.int i) := PD.mk pe_int (ed_c fun _ => .int i)
theorem pd_bl {j : Nat} : PD X (.Constant (.bool t) j pos) ρ (.bool t) := PD.mk pe_bl (ed_c fun _ => .bl t)
theorem pd_non {j : Nat} : PD X (.Constant .none j pos) ρ .none := PD.mk pe_non (ed_c fun _ => .non)
theorem pd_str {j : Nat} {x : Str} : PD X (.Constant (.str x) j pos) ρ (.str x) := PD.mk pe_str (ed_c fun _ => .str x)
/-- a module's constant -/
def CstK (K : PySem.W.Frag) (mg : Str → Option Value) (x : Str) (d : PyData) : Prop := ∃ u v, mg x = some u ∧ RelV v u ∧ ∀ H, Dq K H v d
abbrev Cst (X : Cx) (x : Str) (d : PyData) : Prop := CstK X.K X.mg x d
theorem pd_glob {x : Str} (c : Ctx X N sc k) (h : Cst X x d) (hg : sc.names.lookup x = some .globalImplicit := by rfl) (hd : (x == ("__debug__" : Str)) = false := by decide) : PD X (.Name x pos) ρ d := by
  obtain ⟨u, v, h1, h2, h3⟩ := h
  exact PD.mk (pe_glob (c.gl hg) h1 h2 hd) (ed_c h3)
theorem pd_op {op : Operator} {r : R2} (ho : OpR X (binaryOp op) r) (ha : PD X a ρ d1) (hb : PD X b ρ d2) (hr : RD X.K r d1 d2 d) : PD X (.BinOp a op b pos) ρ d := PD.mk (pe_op ho pe_W pe_W) (ed_op ha hb hr)
theorem pd_cmp {op : CmpOp} {r : R2} (ho : OpR X (compareOp op) r) (ha : PD X a ρ d1) (hb : PD X b ρ d2) (hr : RD X.K r d1 d2 d) (hm : behindInMarks op b = false := by exact nomark _) : PD X (.Compare a [op] [b] pos) ρ d := PD.mk (pe_cmpR ho pe_W pe_W hm) (ed_op ha hb hr)
theorem pdt_cmp {op : CmpOp} {r : R2} (ho : OpR X (compareOp op) r) (ha : PD X a ρ d1) (hb : PD X b ρ d2) (hr : RD X.K r d1 d2 (.bool t)) (hm : behindInMarks op b = false := by exact nomark _) : PDT X (.Compare a [op] [b] pos) ρ t := PDT.mk (pt_cmpR ho pe_W pe_W hm) (et_test (ed_op ha hb hr))
theorem rd_I0 {g : Int → Int → V} {z : PyData} (h : ∀ H, Dq X.K H (g i j) z) : RD X.K (rI0 g) (.int i) (.int j) z := fun H v w hv hw Q q => by
  cases hv
  cases hw
  exact ⟨i, j, rfl, rfl, q _ H (Same.refl H) (h H)⟩
theorem rd_I {C : Int → Int → Prop} {g : Int → Int → V} {z : PyData} (hc : C i j) (h : ∀ H, Dq X.K H (g i j) z) : RD X.K (rI C g) (.int i) (.int j) z := fun H v w hv hw Q q => by
  cases hv
  cases hw
  exact ⟨i, j, rfl, rfl, hc, q _ H (Same.refl H) (h H)⟩
theorem pd_add (ha : PD X a ρ (.int i)) (hb : PD X b ρ (.int j)) : PD X (.BinOp a .Add b pos) ρ (.int (i + j)) := pd_op op_add ha hb (rd_I0 fun _ => .int _)
theorem pd_sub (ha : PD X a ρ (.int i)) (hb : PD X b ρ (.int j)) : PD X (.BinOp a .Sub b pos) ρ (.int (i - j)) := pd_op op_sub ha hb (rd_I0 fun _ => .int _)
theorem pd_mul (ha : PD X a ρ (.int i)) (hb : PD X b ρ (.int j)) (h : CMulW i j) : PD X (.BinOp a .Mult b pos) ρ (.int (i * j)) := pd_op op_mulW ha hb (rd_I h fun _ => .int _)
theorem pd_fdiv (ha : PD X a ρ (.int i)) (hb : PD X b ρ (.int j)) (h : CDivW i j) : PD X (.BinOp a .FloorDiv b pos) ρ (.int (i / j)) := pd_op op_fdivW ha hb (rd_I h fun _ => .int _)
theorem pd_mod (ha : PD X a ρ (.int i)) (hb : PD X b ρ (.int j)) (h : 0 < j) : PD X (.BinOp a .Mod b pos) ρ (.int (i % j)) := pd_op op_mod ha hb (rd_I h fun _ => .int _)
theorem pd_neg (ha : PD X a ρ (.int i)) : PD X (.UnaryOp .USub a pos) ρ (.int (-i)) := PD.mk (pe_un un_neg pe_W) (ed_un ha fun H v hv Q q => by
  cases hv
  exact ⟨i, rfl, q _ H (Same.refl H) (.int _)⟩)
theorem pd_lt (ha : PD X a ρ (.int i)) (hb : PD X b ρ (.int j)) : PD X (.Compare a [.Lt] [b] pos) ρ (.bool (decide (i < j))) := pd_cmp op_lt ha hb (rd_I0 fun _ => .bl _)
theorem pd_gt (ha : PD X a ρ (.int i)) (hb : PD X b ρ (.int j)) : PD X (.Compare a [.Gt] [b] pos) ρ (.bool (decide (j < i))) := pd_cmp op_gt ha hb (rd_I0 fun _ => .bl _)
theorem pd_le (ha : PD X a ρ (.int i)) (hb : PD X b ρ (.int j)) : PD X (.Compare a [.LtE] [b] pos) ρ (.bool (decide (i ≤ j))) := pd_cmp op_le ha hb (rd_I0 fun _ => .bl _)
theorem pd_ge (ha : PD X a ρ (.int i)) (hb : PD X b ρ (.int j)) : PD X (.Compare a [.GtE] [b] pos) ρ (.bool (decide (j ≤ i))) := pd_cmp op_ge ha hb (rd_I0 fun _ => .bl _)
theorem pdt_lt (ha : PD X a ρ (.int i)) (hb : PD X b ρ (.int j)) : PDT X (.Compare a [.Lt] [b] pos) ρ (decide (i < j)) := pdt_cmp op_lt ha hb (rd_I0 fun _ => .bl _)
theorem pdt_gt (ha : PD X a ρ (.int i)) (hb : PD X b ρ (.int j)) : PDT X (.Compare a [.Gt] [b] pos) ρ (decide (j < i)) := pdt_cmp op_gt ha hb (rd_I0 fun _ => .bl _)
theorem pdt_le (ha : PD X a ρ (.int i)) (hb : PD X b ρ (.int j)) : PDT X (.Compare a [.LtE] [b] pos) ρ (decide (i ≤ j)) := pdt_cmp op_le ha hb (rd_I0 fun _ => .bl _)
theorem pdt_ge (ha : PD X a ρ (.int i)) (hb : PD X b ρ (.int j)) : PDT X (.Compare a [.GtE] [b] pos) ρ (decide (j ≤ i)) := pdt_cmp op_ge ha hb (rd_I0 fun _ => .bl _)
theorem rd_eq (s1 : SeqAt.shaped d1 = true) (s2 : SeqAt.shaped d2 = true) : RD X.K (rEqD X.K) d1 d2 (.bool (PyData.eqv d1 d2)) := fun H v w hv hw Q q => ⟨d1, d2, hv.dp, hw.dp, s1, s2, q _ H (Same.refl H) (.bl _)⟩
theorem rd_ne (s1 : SeqAt.shaped d1 = true) (s2 : SeqAt.shaped d2 = true) : RD X.K (rNeD X.K) d1 d2 (.bool (!PyData.eqv d1 d2)) := fun H v w hv hw Q q => ⟨d1, d2, hv.dp, hw.dp, s1, s2, q _ H (Same.refl H) (.bl _)⟩
theorem pd_eq (c : Ctx X N sc k) (ha : PD X a ρ d1) (hb : PD X b ρ d2) (he : PyData.eqv d1 d2 = t) (s1 : SeqAt.shaped d1 = true) (s2 : SeqAt.shaped d2 = true) : PD X (.Compare a [.Eq] [b] pos) ρ (.bool t) := he ▸ pd_cmp (op_eqD c.room.units) ha hb (rd_eq s1 s2)
theorem pd_ne (c : Ctx X N sc k) (ha : PD X a ρ d1) (hb : PD X b ρ d2) (he : PyData.eqv d1 d2 = t) (s1 : SeqAt.shaped d1 = true) (s2 : SeqAt.shaped d2 = true) : PD X (.Compare a [.NotEq] [b] pos) ρ (.bool (!t)) := he ▸ pd_cmp (op_neD c.room.units) ha hb (rd_ne s1 s2)
theorem pdt_eq (c : Ctx X N sc k) (ha : PD X a ρ d1) (hb : PD X b ρ d2) (he : PyData.eqv d1 d2 = t) (s1 : SeqAt.shaped d1 = true) (s2 : SeqAt.shaped d2 = true) : PDT X (.Compare a [.Eq] [b] pos) ρ t := he ▸ pdt_cmp (op_eqD c.room.units) ha hb (rd_eq s1 s2)
theorem pdt_ne (c : Ctx X N sc k) (ha : PD X a ρ d1) (hb : PD X b ρ d2) (he : PyData.eqv d1 d2 = t) (s1 : SeqAt.shaped d1 = true) (s2 : SeqAt.shaped d2 = true) : PDT X (.Compare a [.NotEq] [b] pos) ρ (!t) := he ▸ pdt_cmp (op_neD c.room.units) ha hb (rd_ne s1 s2)
def isNon : PyData → Bool
  | .none => true
  | _ => false
theorem isNon_v {H : Hp} {v : V} (h : Dq X.K H v d) : decide (v = .non) = isNon d := by
  cases h <;> rfl
theorem rd_isN : RD X.K (fun x y H Q => y = V.non ∧ Q (.bl (decide (x = .non))) H) d .none (.bool (isNon d)) := fun H v w hv hw Q q => by
  cases hw
  refine ⟨rfl, q _ H (Same.refl H) ?_⟩
  rw [isNon_v hv]
  exact .bl _
theorem rd_notN : RD X.K (fun x y H Q => y = V.non ∧ Q (.bl (!decide (x = .non))) H) d .none (.bool (!isNon d)) := fun H v w hv hw Q q => by
  cases hw
  refine ⟨rfl, q _ H (Same.refl H) ?_⟩
  rw [isNon_v hv]
  exact .bl _
theorem pd_isN (ha : PD X a ρ d) (hb : PD X b ρ .none) : PD X (.Compare a [.Is] [b] pos) ρ (.bool (isNon d)) := pd_cmp op_isN ha hb rd_isN
theorem pd_notN (ha : PD X a ρ d) (hb : PD X b ρ .none) : PD X (.Compare a [.IsNot] [b] pos) ρ (.bool (!isNon d)) := pd_cmp op_notN ha hb rd_notN
theorem pdt_isN (ha : PD X a ρ d) (hb : PD X b ρ .none) : PDT X (.Compare a [.Is] [b] pos) ρ (isNon d) := pdt_cmp op_isN ha hb rd_isN
theorem pdt_notN (ha : PD X a ρ d) (hb : PD X b ρ .none) : PDT X (.Compare a [.IsNot] [b] pos) ρ (!isNon d) := pdt_cmp op_notN ha hb rd_notN
theorem pdt_notB (ha : PD X a ρ (.bool t)) (hb : PD X b ρ (.bool u)) : PDT X (.Compare a [.IsNot] [b] pos) ρ (!decide (t = u)) := pdt_cmp op_isnot_bl ha hb fun H v w hv hw Q q => by
  cases hv
  cases hw
  exact ⟨t, u, rfl, rfl, q _ H (Same.refl H) (.bl _)⟩

/-! ### displays, items, slices -/
theorem pda_nil : PDA X [] ρ [] := PDA.mk pa_nil fun σ H E Q q => q [] H (Same.refl H) .nil
theorem pda_cons (ha : PD X e ρ d) (hr : PDA X es ρ ds) (hs : starEach (e :: es) X.env = (false, eval e X.env) :: starEach es X.env := by rfl) : PDA X (e :: es) ρ (d :: ds) :=
  PDA.mk (pa_cons pe_W pa_W hs) fun σ H E Q q => ha σ H E _ fun v H1 s1 hv => hr σ H1 (E.mono s1) _ fun vs H2 s2 hvs => q (v :: vs) H2 (s1.trans s2) (.cons (hv.mono s2) hvs)
theorem same_upd {H : Hp} {p : Addr} {o : HO} (h : H p = none) : Same H (upd H p o) := fun b x e => by
  rw [upd_ne (ne_of_none e h)]
  exact e
theorem sz_le {n : Nat} (h : n ≤ 100000) : n ≤ sizeLine := Nat.le_trans h (by decide)
theorem pd_tup {x1 : Nat} (h : PDA X es ρ ds) (hl : ds.length ≤ 100000 := by exact Nat.le_of_ble_eq_true rfl) : PD X (.Tuple es x1 pos) ρ (.tuple ds) := PD.mk (pe_tup pa_W) fun σ H E Q q =>
  h σ H E _ fun vs H1 s1 hv => ⟨sz_le (by rw [hv.len]; exact hl), fun p np => q _ _ (s1.trans (same_upd np)) (.tup (SqT.of upd_same) (hv.mono (same_upd np)))⟩
theorem pd_lst (h : PDA X es ρ ds) (hl : ds.length ≤ 100000 := by exact Nat.le_of_ble_eq_true rfl) : PD X (.List es pos) ρ (.list ds) := PD.mk (pe_lst pa_W) fun σ H E Q q =>
  h σ H E _ fun vs H1 s1 hv => ⟨sz_le (by rw [hv.len]; exact hl), fun p np => q _ _ (s1.trans (same_upd np)) (.lst upd_same (hv.mono (same_upd np)))⟩
theorem atI_dq {H : Hp} {vs : List V} (h : DqA X.K H vs ds) (e : atI ds i = some d) : ∃ v, atI vs i = some v ∧ Dq X.K H v d := by
  unfold atI at e ⊢
  rw [h.len]
  cases q : ixN ds.length i with
  | none => rw [q] at e; cases e
  | some n =>
    rw [q] at e
    exact h.get e
theorem pd_ixT (ha : PD X a ρ (.tuple ds)) (hb : PD X b ρ (.int i)) (he : atI ds i = some d := by rfl) (hs : PlainIx b := by exact fun _ _ => rfl) : PD X (.Subscript a b pos) ρ d := PD.mk (pe_ix ix_tup pe_W pe_W hs) (ed_op ha hb fun H v w hv hw Q q => by
  cases hw
  cases hv with
  | tup h1 h2 =>
    obtain ⟨v, e1, e2⟩ := atI_dq h2 he
    exact ⟨_, _, i, v, rfl, rfl, h1, e1, q v H (Same.refl H) e2⟩)
theorem pd_ixL (ha : PD X a ρ (.list ds)) (hb : PD X b ρ (.int i)) (he : atI ds i = some d := by rfl) (hs : PlainIx b := by exact fun _ _ => rfl) : PD X (.Subscript a b pos) ρ d := PD.mk (pe_ix ix_list pe_W pe_W hs) (ed_op ha hb fun H v w hv hw Q q => by
  cases hw
  cases hv with
  | lst h1 h2 =>
    obtain ⟨v, e1, e2⟩ := atI_dq h2 he
    exact ⟨_, _, i, v, rfl, rfl, SqL.of h1, e1, q v H (Same.refl H) e2⟩)
/-- xs + ys, lists -/
theorem pd_catL {es2 : List PyData} (ha : PD X a ρ (.list ds)) (hb : PD X b ρ (.list es2)) (hl : ds.length + es2.length ≤ 100000) : PD X (.BinOp a .Add b pos) ρ (.list (ds ++ es2)) := pd_op op_cat ha hb fun H v w hv hw Q q => by
  cases hv with
  | lst h1 h2 =>
    cases hw with
    | lst h3 h4 =>
      exact ⟨_, _, _, _, rfl, rfl, h1, h3, sz_le (by rw [h2.len, h4.len]; exact hl), fun p np => q _ _ (same_upd np) (.lst upd_same ((h2.mono (same_upd np)).append (h4.mono (same_upd np))))⟩
/-- t + u, tuples -/
theorem pd_catT {es2 : List PyData} (ha : PD X a ρ (.tuple ds)) (hb : PD X b ρ (.tuple es2)) (h0 : ds ≠ []) (h1 : es2 ≠ []) (hl : ds.length + es2.length ≤ 100000) : PD X (.BinOp a .Add b pos) ρ (.tuple (ds ++ es2)) := pd_op op_catA ha hb fun H v w hv hw Q q => by
  cases hv with
  | tup g1 g2 =>
    cases hw with
    | tup g3 g4 =>
      refine ⟨_, _, _, _, rfl, rfl, g1, g3, sz_le (by rw [g2.len, g4.len]; exact hl), fun z => ?_, fun _ z => ?_, fun _ _ p np => q _ _ (same_upd np) (.tup (SqT.of upd_same) ((g2.mono (same_upd np)).append (g4.mono (same_upd np))))⟩
      · have := g2.len
        rw [z] at this
        exact absurd (List.length_eq_zero_iff.mp this.symm) h0
      · have := g4.len
        rw [z] at this
        exact absurd (List.length_eq_zero_iff.mp this.symm) h1
/-- parts of a slice -/
def EDO (K : PySem.W.Frag) (to : TO) (ρ : Rho) (o : Option Int) : Prop := ∀ σ H, EnvD K H σ ρ → ∀ Q : Option Int → Hp → Prop, (∀ H', Same H H' → Q o H') → to σ H Q
def cutD {α : Type} (xs : List α) (lo hi : Option Int) : List α := (xs.drop (HT.sIx xs.length 0 lo)).take (HT.sIx xs.length xs.length hi - HT.sIx xs.length 0 lo)
theorem edo_none : EDO X.K tNoPart ρ none := fun σ H E Q q => q H (Same.refl H)
theorem edo_some {t : TE} (h : ED X.K t ρ (.int i)) : EDO X.K (tPart t) ρ (some i) := fun σ H E Q q => h σ H E _ fun v H1 s1 hv => by
  cases hv
  exact ⟨i, rfl, q H1 s1⟩
theorem pd_slT {lo hi : Option Expr} {tl th : TO} {l h : Option Int} {p2 : Pos} (ha : PD X a ρ (.tuple ds)) (pl : PO X lo tl) (el : EDO X.K tl ρ l) (ph : PO X hi th) (eh : EDO X.K th ρ h) : PD X (.Subscript a (.Slice lo hi none p2) pos) ρ (.tuple (cutD ds l h)) :=
  PD.mk (pe_slice sl_tupA pe_W pl ph) fun σ H E Q q => ha σ H E _ fun v H1 s1 hv => el σ H1 (E.mono s1) _ fun H2 s2 => eh σ H2 (E.mono (s1.trans s2)) _ fun H3 s3 => by
    cases hv with
    | tup h1 h2 =>
      have g2 := h2.mono (s2.trans s3)
      have hl := g2.len
      refine ⟨_, _, rfl, sqT_mono (s2.trans s3) h1, fun hw => q _ H3 (s1.trans (s2.trans s3)) ?_, fun hw p np => q _ _ ((s1.trans (s2.trans s3)).trans (same_upd np)) (.tup (SqT.of upd_same) ?_)⟩
      · have e : cutD ds l h = ds := by
          unfold cutD
          rw [← hl, hw.1, hw.2, Nat.sub_zero, List.drop_zero, hl]
          exact List.take_length
        rw [e]
        exact .tup (sqT_mono (s2.trans s3) h1) g2
      · unfold cutV cutD
        rw [hl]
        exact ((g2.mono (same_upd np)).drop _).take _
theorem pd_slL {lo hi : Option Expr} {tl th : TO} {l h : Option Int} {p2 : Pos} (ha : PD X a ρ (.list ds)) (pl : PO X lo tl) (el : EDO X.K tl ρ l) (ph : PO X hi th) (eh : EDO X.K th ρ h) : PD X (.Subscript a (.Slice lo hi none p2) pos) ρ (.list (cutD ds l h)) :=
  PD.mk (pe_slice sl_list pe_W pl ph) fun σ H E Q q => ha σ H E _ fun v H1 s1 hv => el σ H1 (E.mono s1) _ fun H2 s2 => eh σ H2 (E.mono (s1.trans s2)) _ fun H3 s3 => by
    cases hv with
    | lst h1 h2 =>
      have g2 := h2.mono (s2.trans s3)
      have hl := g2.len
      refine ⟨_, _, rfl, SqL.of ((s2.trans s3) _ _ h1), fun p np => q _ _ ((s1.trans (s2.trans s3)).trans (same_upd np)) (.lst upd_same ?_)⟩
      unfold cutV cutD
      rw [hl]
      exact ((g2.mono (same_upd np)).drop _).take _
/-- xs[::-1] -/
theorem pd_revL {n : Nat} {p1 p2 p3 : Pos} (ha : PD X a ρ (.list ds)) : PD X (.Subscript a (.Slice none none (some (.UnaryOp .USub (.Constant (.int 1) n p1) p2)) p3) pos) ρ (.list ds.reverse) := PD.mk (pe_revL pe_W) fun σ H E Q q => ha σ H E _ fun v H1 s1 hv => by
  cases hv with
  | lst h1 h2 => exact ⟨_, _, rfl, SqL.of h1, fun p np => q _ _ (s1.trans (same_upd np)) (.lst upd_same (h2.mono (same_upd np)).reverse)⟩

/-! ### truth, conditions -/
theorem pd_and {rest : List Expr} {t u : Bool} (ha : PD X a ρ (.bool t)) (hb : t = true → PD X (.BoolOp .And (b :: rest) pos) ρ (.bool u)) : PD X (.BoolOp .And (a :: b :: rest) pos) ρ (.bool (t && u)) := PD.mk (pe_and pe_W pe_W) fun σ H E Q q => ha σ H E _ fun v H1 s1 hv => by
  cases hv
  refine ⟨t, rfl, ?_⟩
  cases t with
  | true =>
    rw [if_pos rfl]
    exact hb rfl σ H1 (E.mono s1) Q fun z H2 s2 hz => q z H2 (s1.trans s2) hz
  | false =>
    rw [if_neg (by decide)]
    exact q _ H1 s1 (.bl _)
theorem pd_or {rest : List Expr} {t u : Bool} (ha : PD X a ρ (.bool t)) (hb : t = false → PD X (.BoolOp .Or (b :: rest) pos) ρ (.bool u)) : PD X (.BoolOp .Or (a :: b :: rest) pos) ρ (.bool (t || u)) := PD.mk (pe_or pe_W pe_W) fun σ H E Q q => ha σ H E _ fun v H1 s1 hv => by
  cases hv
  refine ⟨t, rfl, ?_⟩
  cases t with
  | false =>
    rw [if_neg (by decide)]
    exact hb rfl σ H1 (E.mono s1) Q fun z H2 s2 hz => q z H2 (s1.trans s2) hz
  | true =>
    rw [if_pos rfl]
    exact q _ H1 s1 (.bl _)
theorem pd_one {op : PySem.BoolOp} (h : PD X a ρ d) : PD X (.BoolOp op [a] pos) ρ d := PD.mk (pe_one pe_W) h
theorem pd_not (ha : PD X a ρ (.bool t)) : PD X (.UnaryOp .Not a pos) ρ (.bool (!t)) := PD.mk (pe_not pe_W) fun σ H E Q q => ha σ H E _ fun v H1 s1 hv => by
  cases hv
  exact ⟨t, rfl, q _ H1 s1 (.bl _)⟩
theorem pdt_val (h : PD X e ρ (.bool t)) (he : ∀ whole, isTrue e X.env whole = (do let v ← whole; standAt e.pos; holding [v] (truthy v)) := by intro _; rfl) : PDT X e ρ t := PDT.mk (pt_val pe_W he) (et_B h)
theorem pdt_not (h : PDT X a ρ t) : PDT X (.UnaryOp .Not a pos) ρ (!t) := PDT.mk (pt_not pt_W) fun σ H E Q q => h σ H E _ fun H1 s1 => q H1 s1
theorem pdt_w (h : PDW X e ρ t) : PDT X e ρ t := PDT.mk pw_W.pt h
theorem pdw_and1 (h : PDT X a ρ t) : PDW X (.BoolOp .And [a] pos) ρ t := PDW.mk (pw_and1 pt_W) h
theorem pdw_or1 (h : PDT X a ρ t) : PDW X (.BoolOp .Or [a] pos) ρ t := PDW.mk (pw_or1 pt_W) h
theorem pdw_and {rest : List Expr} (ha : PDT X a ρ t) (hb : t = true → PDW X (.BoolOp .And (b :: rest) pos) ρ u) : PDW X (.BoolOp .And (a :: b :: rest) pos) ρ (t && u) := PDW.mk (pw_and pt_W pw_W) fun σ H E Q q => ha σ H E _ fun H1 s1 => by
  cases t with
  | true =>
    rw [if_pos rfl]
    exact hb rfl σ H1 (E.mono s1) Q fun H2 s2 => q H2 (s1.trans s2)
  | false =>
    rw [if_neg (by decide)]
    exact q H1 s1
theorem pdw_or {rest : List Expr} (ha : PDT X a ρ t) (hb : t = false → PDW X (.BoolOp .Or (b :: rest) pos) ρ u) : PDW X (.BoolOp .Or (a :: b :: rest) pos) ρ (t || u) := PDW.mk (pw_or pt_W pw_W) fun σ H E Q q => ha σ H E _ fun H1 s1 => by
  cases t with
  | false =>
    rw [if_neg (by decide)]
    exact hb rfl σ H1 (E.mono s1) Q fun H2 s2 => q H2 (s1.trans s2)
  | true =>
    rw [if_pos rfl]
    exact q H1 s1
theorem pd_if {c : Expr} (hc : PDT X c ρ t) (h1 : t = true → PD X a ρ d) (h2 : t = false → PD X b ρ d) : PD X (.IfExp c a b pos) ρ d := PD.mk (pe_ifExp pt_W pe_W pe_W) fun σ H E Q q => hc σ H E _ fun H1 s1 => by
  cases t with
  | true =>
    rw [if_pos rfl]
    exact h1 rfl σ H1 (E.mono s1) Q fun z H2 s2 hz => q z H2 (s1.trans s2) hz
  | false =>
    rw [if_neg (by decide)]
    exact h2 rfl σ H1 (E.mono s1) Q fun z H2 s2 hz => q z H2 (s1.trans s2) hz
end
end SC

set_option maxHeartbeats 4000000
/-! enumerate of a tuple, for the hand layer -/
namespace SC
open PySem PySem.Spec PyProof.Rows L2
open Sem (wp)

theorem meets_enum1 {v : Value} {o : Obj} {H : Heap → Prop} (B : Begins v o H) :
    Meets (Builtin.«enumerate.__new__» ⟨[.type "enumerate", v], []⟩) (fun _ R s => H s.heap ∧
      R (.ok (.ret (.ref (s.heap.push o).objs.size))) { s with heap := (s.heap.push o).push { cls := .type "enumerate", data := .fields #[.none, .bool false, .ref s.heap.objs.size, rawInt 0, .none, .none] } }) :=
  .of_wp fun prog w A R s h => by
    obtain ⟨hp, g, d, tk, os⟩ := s; obtain ⟨h1, h⟩ := h
    have hsub := sub_enumerate
    have q1 : ∀ {A' : Around} {E : Value → Shared → Prop} {Q : Value → Shared → Prop}, Q (.ref hp.objs.size) ⟨hp.push o, g, d, tk, os⟩ → wpAny (model prog w) A' (pyIter v) Q E ⟨hp, g, d, tk, os⟩ :=
      fun q => B.iter prog w _ _ ⟨hp, g, d, tk, os⟩ _ h1 q
    wp_walk using q1
    refine wpAny_stack_any fun st => wpAny_pure ?_
    split
    · rename_i c _ _ _ _ _
      cases (c == Value.type "enumerate")
      · wp_walk using q1
        exact ⟨_, rfl, h⟩
      · wp_walk using q1
        exact ⟨_, rfl, h⟩
    · wp_walk using q1
      exact ⟨_, rfl, h⟩
section
variable {prog : Program} {w : World} {A : Around} {E : Value → Shared → Prop} {s : Shared}
theorem enum1 {v : Value} {o : Obj} {H : Heap → Prop} {Q : Value → Shared → Prop} (B : Begins v o H) (h1 : H s.heap)
    (h : ∀ h', IsEnum h' (s.heap.objs.size + 1) s.heap.objs.size 0 .none → h'.get? s.heap.objs.size = some o → h'.objs.size = s.heap.objs.size + 2 →
      (∀ b o, s.heap.get? b = some o → h'.get? b = some o) → Q (.ref (s.heap.objs.size + 1)) { s with heap := h' }) :
    wpAny (model prog w) A (call (.type "enumerate") [v]) Q E s := by
  refine callType_new F.called_enumerate (by decide) (F.typeCall_enumerate_1 _) (F.newCall_enumerate_1 _) (fun obj => F.args_object_init_2 obj _) F.entry_enumerate_new
    (meets_enum1 B) ⟨h1, ?_⟩
  have hz : (s.heap.push o).objs.size = s.heap.objs.size + 1 := Heap.size_push ..
  show _ ∧ _
  rw [hz]
  have he : IsEnum ((s.heap.push o).push { cls := .type "enumerate", data := .fields #[.none, .bool false, .ref s.heap.objs.size, rawInt 0, .none, .none] }) (s.heap.objs.size + 1) s.heap.objs.size 0 .none := by
    have := Heap.get?_push_size (s.heap.push o) (o := { cls := .type "enumerate", data := .fields #[.none, .bool false, .ref s.heap.objs.size, rawInt 0, .none, .none] }) rfl
    rw [hz] at this; exact this
  refine ⟨⟨_, he, rfl⟩, h _ he (Heap.get?_push_of_some _ (Heap.get?_push_size _ B.free)) (by rw [Heap.size_push, hz]) fun b o x => Heap.get?_push_of_some _ (Heap.get?_push_of_some _ x)⟩
end
/-- the tuple at a, each item in a new pair -/
def IteT (K : PySem.W.Frag) (a : Addr) : It :=
  ⟨fun i H => ∃ (xs : List V) (x : V), SqT K H a xs ∧ xs[i]? = some x, fun i H v H' => ∃ T x, v = .ref T ∧ H T = none ∧ H' = upd H T (.tup [.int (i : Nat), x]) ∧ ∀ xs, SqT K H a xs → xs[i]? = some x, fun i H => ∃ xs : List V, SqT K H a xs ∧ xs.length ≤ i⟩
theorem tup_inj {X : Cx} {pins : List (Addr × Obj)} {σ : L2.St} {H : Hp} {s : Shared} (I : Inv X pins σ H s) {a : Addr} {xs ys : List V} (h : SqT X.K H a xs) (h' : SqT X.K H a ys) : xs = ys := by
  obtain ⟨its, r, p, _⟩ := I.tuple h
  obtain ⟨its2, r2, p2, _⟩ := I.tuple h'
  obtain ⟨o, ho, hc, n, hd⟩ := p
  obtain ⟨o2, ho2, hc2, n2, hd2⟩ := p2
  rw [ho] at ho2
  cases ho2
  rw [hd] at hd2
  have e : its = its2 := by
    have := (PySem.Data.seq.inj hd2).1
    simpa using this
  subst e
  exact r.inj r2
theorem turn_enumT {P : Program} {w : World} {K : PySem.W.Frag} {elts : List Expr} {kk : Nat} {tpos : Pos} (a e it : Addr) :
    Turn P w K (.Tuple elts kk tpos) (IteT K a) [e, it] e (fun i h => (∃ old, IsEnum h e it ((i : Nat) : Int) old) ∧ h.IsTupleIter it a i ∧ e ≠ it ∧ a ≠ it ∧ a ≠ e) where
  mem := by simp
  obj := fun i h st b hb => by
    obtain ⟨⟨old, he⟩, ⟨o, ho, hc, hd⟩, _⟩ := st
    have e' : b = e ∨ b = it := by simpa using hb
    rcases e' with z | z
    · rw [z]; exact ⟨_, he, fun v q => nomatch q⟩
    · rw [z]; exact ⟨o, ho, fun v q => by rw [hd] at q; cases q⟩
  keep := fun i h h' st k => let ⟨⟨old, he⟩, hi, hne⟩ := st; ⟨⟨old, k e (by simp) _ he⟩, hi.at fun o q => k it (by simp) o q, hne⟩
  item := by
    intro X hP hw hK hc i pins s σ H E I hf st hg
    subst hP hw hK
    obtain ⟨⟨old, he⟩, hit, hne, hai, hae⟩ := st
    obtain ⟨xs, x, hq, hx⟩ := hg
    obtain ⟨its, rv, p, hz⟩ := I.tuple hq
    obtain ⟨u, hu, ru⟩ := rv.get hx
    have hel : e < s.heap.objs.size := Heap.lt_size he
    have hil : it < s.heap.objs.size := by obtain ⟨_, q, _⟩ := hit; exact Heap.lt_size q
    have hlt : i < its.toArray.size := by
      have := (List.getElem?_eq_some_iff.mp hu).1
      simpa using this
    refine wpAny_pyNext_enum_itemD (n := its.toArray.size) (fp := [it, a]) (Draws.tuple (A := X.A.in1) (show X.A.in1.handled = none from I.ok.hd hc) it a hai its.toArray) he ⟨hit, p⟩ hlt hne (by simp [hne, hae.symm]) fun x' h' tk hP ho hst' hT hsz hk => ?_
    have ex : x' = u := by
      have := hP
      simp only [List.getElem?_toArray] at this
      rw [hu] at this
      exact (Option.some.inj this).symm
    subst ex
    refine ⟨_, rfl, wpAny_letOwnedTupleGo_enum (s := { s with heap := h', toks := tk + 1 }) ho fun h'' he' sb => ?_⟩
    have hT2 : h''.get? s.heap.objs.size = some { cls := .type "tuple", data := .seq #[.int i tk, x'] } := (sb.2 _ (Nat.ne_of_gt hel)).trans hT
    have new : ObjOk X.prog X.w (upd H s.heap.objs.size (.tup [.int (i : Nat), x])) h'' s.heap.objs.size (.tup [.int (i : Nat), x]) :=
      ⟨by show 2 ≤ sizeLine; decide, [.int i tk, x'], .cons ⟨_, rfl⟩ (.cons ru .nil), ⟨_, hT2, rfl, _, rfl⟩⟩
    have I1 : Inv X pins σ (upd H s.heap.objs.size (.tup [.int (i : Nat), x])) { s with heap := h'', toks := tk + 1 } :=
      I.turnedNew (ch := [e, it]) (fun b ob hb q => (sb.2 b (fun z => hb (by simp [z]))).trans (hk b ob (fun z => hb (by simp [z])) (fun z => hb (by simp [z])) q)) hf (Nat.le_refl _) new
    refine ⟨.ref s.heap.objs.size, _, I1, rfl, ⟨_, x, rfl, I.hok.fresh (Nat.le_refl _), rfl, fun ys hy => by rw [tup_inj I hy hq]; exact hx⟩, ⟨⟨x', ?_⟩, hst'.1.at fun o q => (sb.2 it (Ne.symm hne)).trans q, hne, hai, hae⟩, fun b hb => ?_⟩
    · have e1 : ((i + 1 : Nat) : Int) = (i : Int) + 1 := by omega
      rw [e1]; exact he'
    · have hb' : b < s.heap.objs.size := by
        have e' : b = e ∨ b = it := by simpa using hb
        rcases e' with z | z
        · rw [z]; exact hel
        · rw [z]; exact hil
      rw [upd_ne (Nat.ne_of_lt hb')]
      exact (hf b hb).1
  done := by
    intro X hP hw hK hc i pins s σ H E I hf st hg
    subst hP hw hK
    obtain ⟨⟨old, he⟩, hit, hne, hai, hae⟩ := st
    obtain ⟨xs, hq, hx⟩ := hg
    obtain ⟨its, rv, p, hz⟩ := I.tuple hq
    obtain ⟨f0, f1, f2, f3, f4, f5⟩ := hf it (by simp)
    have hl := rv.length
    obtain ⟨oi, hoi, hci, hdi⟩ := id hit
    have hT : s.TypeIs (.ref e) "enumerate" := ⟨_, he, rfl⟩
    unfold pyNext
    refine wpAny_bind (wpAny_attempt (wpAny_callSpecial?_slot (name := Str.ofString "__next__") hT F.slot_enumerate_next
      (wpAny_call_entry F.slot_enumerate_next hT F.entry_enumerate_next ?_ (F.args_enumerate_next_1 _))))
    show wpAny _ _ (field (.ref e) 2 >>= _) _ _ _
    refine wpAny_bind (wpAny_field he rfl (x := .ref it) rfl ?_)
    refine wpAny_bind (wpAny_nextOf_tuple_end (items := its.toArray) (I.ok.hd hc) hit p (by simp; omega) fun h' x he' hx' => ?_)
    obtain ⟨o, ho, hc'⟩ := hx'
    refine wpAny_bind (wpAny_isInstance (T := "StopIteration") (b := true) ⟨o, ho, hc'⟩ isSubtype_stop ?_)
    exact wpAny_pure ⟨rfl, I.turned (t' := s.toks) (fun b o hb q => he' b o hb q) f0 f1 f3 f4 f5⟩
  self := fun A i s Q E st h => let ⟨⟨_, he⟩, _⟩ := st; wpAny_pyIter_enum he h
def iEnumT (K : PySem.W.Frag) (ta : TA) : TI := fun σ H R => ta σ H fun vs H1 => ∃ a xs, vs = [.ref a] ∧ SqT K H1 a xs ∧ R (IteT K a) H1
theorem pi_enumT {X : Cx} {e : Expr} {ta : TA} {p pos tpos : Pos} {elts : List Expr} {kk : Nat} (hg : Gl X "enumerate") (hm : X.mg "enumerate" = none) (ha : PA X [e] ta) (hs : starEach [e] X.env = [(false, eval e X.env)] := by rfl) :
    PI X (.Tuple elts kk tpos) (.Call (.Name "enumerate" p) [e] [] pos) (iEnumT X.K ta) := by
  refine ⟨fun pins s σ H R I h => ?_⟩
  refine Call_ (ld_blt I hg hm boot_enumerate (PyProof.Rows.callWith_type1 (thn (ha.run pos pins s σ H _ I h) fun us s1 ⟨vs, H1, I1, r1, q1⟩ => ?_) hs rfl))
  obtain ⟨a, xs, ex, hq, q⟩ := q1
  subst ex
  cases r1 with
  | cons r rr =>
    cases rr
    cases r
    obtain ⟨its, rv, p', hz⟩ := I1.tuple hq
    have hal : a < s1.heap.objs.size := by obtain ⟨_, z, _⟩ := p'; exact Heap.lt_size z
    refine enum1 (begins_tuple a its.toArray) p' fun h' he hit hsz hk => wpAny_pyIter_enum he ?_
    have I2 : Inv X pins σ H1 { s1 with heap := h' } := I1.kept (t' := s1.toks) hk
    refine ⟨s1.heap.objs.size + 1, [s1.heap.objs.size + 1, s1.heap.objs.size], _, _, H1, rfl, I2, turn_enumT a (s1.heap.objs.size + 1) s1.heap.objs.size, ⟨⟨.none, he⟩, ⟨_, hit, rfl, rfl⟩, Nat.succ_ne_self _, Nat.ne_of_lt hal, Nat.ne_of_lt (Nat.lt_succ_of_lt hal)⟩, fun b hb => ?_, q⟩
    have e' : b = s1.heap.objs.size + 1 ∨ b = s1.heap.objs.size := by simpa using hb
    have hle : s1.heap.objs.size ≤ b := by
      rcases e' with z | z
      · rw [z]; exact Nat.le_add_right _ _
      · rw [z]; exact Nat.le_refl _
    exact I1.fpOk hle (I1.hok.fresh hle)
end SC
namespace SC
open PySem PySem.Spec PyProof.Rows L2 HT
/-! ### t[::-1], t of two items -/
section
variable {prog : Program} {w : World} {A : Around} {E : Value → Shared → Prop} {s : Shared}
theorem sliceApplied_back2 {sl : Addr} {vs : Value} {Q : Int × Int × Nat → Shared → Prop} (hs : s.heap.IsSliceOf sl .none .none vs) (ps : IsPart vs (some (-1)))
    (h : Q ((1 : Int), (-1 : Int), (2 : Nat)) s) : wpAny (model prog w) A (Builtin.Slice.sliceApplied (.ref sl) (pure ((2 : Nat) : Int))) Q E s := by
  obtain ⟨os, hos, hcs, hds⟩ := id hs
  unfold Builtin.Slice.sliceApplied Builtin.Slice.sliceFields
  refine wpAny_bind (wpAny_bind (wpAny_field hos hds (x := .none) rfl (wpAny_bind (wpAny_field hos hds (x := .none) rfl (wpAny_bind (wpAny_field hos hds (x := vs) rfl (wpAny_pure ?_)))))))
  refine wpAny_bind (slicePart_ ps ?_)
  show wpAny _ _ (if ((-1 : Int) == 0) = true then _ else _) _ _ s
  rw [if_neg (by decide)]
  refine wpAny_bind (slicePart_none (wpAny_bind (slicePart_none (wpAny_bind (wpAny_pure ?_)))))
  exact wpAny_pure h
theorem getItem_tuple_back2 {t sl : Addr} {x y vs : Value} {Q : Value → Shared → Prop} (ht : IsTup s.heap t #[x, y]) (hs : s.heap.IsSliceOf sl .none .none vs) (ps : IsPart vs (some (-1)))
    (h : Q (.ref s.heap.objs.size) { s with heap := s.heap.push { cls := .type "tuple", data := .seq #[y, x] } }) : wpAny (model prog w) A (getItem (.ref t) (.ref sl)) Q E s := by
  have htake : sizeOk (.seq #[y, x]) := by
    show 2 ≤ sizeLine
    decide
  obtain ⟨os, hos, hcs, hds⟩ := id hs
  have hTs : s.TypeIs (.ref sl) "slice" := ⟨os, hos, hcs⟩
  unfold getItem
  try with_reducible refine wpAny_holding ?_
  first | refine wpAny_bind (wpAny_pure ?_) | skip
  refine wpAny_bind (wpAny_sequenceKey ht.typeIs (by decide) ?_)
  refine wpAny_bind (wpAny_callSpecial?_slot (name := Str.ofString "__getitem__") ht.typeIs PyProof.Rows.slot_tuple_getitem
    (wpAny_call_entry PyProof.Rows.slot_tuple_getitem ht.typeIs entry_tuple_getitem ?_ (args_tuple_getitem _ _)))
  show wpAny _ _ (Builtin.Tuple.tupleItemsOf (.ref t) >>= _) _ _ s
  refine wpAny_bind (tupleItemsOf_ ht ?_)
  refine wpAny_bind (wpAny_typeOf hTs ?_)
  rw [if_pos (by decide)]
  refine wpAny_bind (sliceApplied_back2 hs ps ?_)
  show wpAny _ _ (if ((1 : Int) == 0 && (-1 : Int) == 1 && (2 : Nat) == 2) = true then _ else _) _ _ s
  rw [if_neg (by decide)]
  first
    | exact wpAny_bind (m := Builtin.Tuple.tupleExact _) (wpAny_newObj_type (wpAny_pure ⟨_, rfl, wpAny_pure h⟩) htake)
    | exact wpAny_bind (m := Builtin.Tuple.tupleExact _) (wpAny_newObj_type (wpAny_bind (wpAny_pure (wpAny_pure ⟨_, rfl, wpAny_pure h⟩))) htake)
    | exact wpAny_bind (wpAny_bind (m := Builtin.Tuple.tupleExact _) (wpAny_newObj_type (wpAny_pure (wpAny_pure ⟨_, rfl, wpAny_pure h⟩)) htake))
    | exact wpAny_bind (wpAny_bind (m := Builtin.Tuple.tupleExact _) (wpAny_newObj_type (wpAny_pure ⟨_, rfl, wpAny_pure h⟩) htake))
end
def tRevT2 (K : PySem.W.Frag) (te : TE) : TE := fun σ H Q => te σ H fun x H1 => ∃ a u v, x = .ref a ∧ SqT K H1 a [u, v] ∧ ∀ p, H1 p = none → Q (.ref p) (upd H1 p (.tup [v, u]))
theorem pe_revT2 {X : Cx} {e : Expr} {te : TE} {k : Nat} {p1 p2 p3 pos : Pos} (he : PE X e te) : PE X (.Subscript e (.Slice none none (some (.UnaryOp .USub (.Constant (.int 1) k p1) p2)) p3) pos) (tRevT2 X.K te) := by
  refine ⟨fun pins s σ H Q I h => ?_⟩
  refine Subscript_ (thn (he.run pins s σ H _ I h) fun v s1 ⟨x, H1, I1, r1, q1⟩ => ?_)
  obtain ⟨a, x1, x2, ex, hx, q⟩ := q1
  subst ex
  cases r1
  have hst : PO X (some (.UnaryOp .USub (.Constant (.int 1) k p1) p2)) (tPart (tUn (rU fun i => .int (-i)) (tC (.int 1)))) := po_some (pe_un un_neg pe_int)
  refine wpAny_Slice (thn (po_none.run pins s1 σ H1 (fun o H2 => o = none ∧ H2 = H1) I1 ⟨rfl, rfl⟩) fun vl s2 ⟨l, H2, I2, pl, el, e2⟩ => ?_)
  subst el e2
  refine thn (po_none.run pins s2 σ H2 (fun o H3 => o = none ∧ H3 = H2) I2 ⟨rfl, rfl⟩) fun vu s3 ⟨u, H3, I3, pu, eu, e3⟩ => ?_
  subst eu e3
  refine thn (hst.run pins s3 σ H3 (fun o H4 => o = some (-1) ∧ H4 = H3) I3 ⟨1, rfl, -1, rfl, rfl, rfl⟩) fun vs s4 ⟨o, H4, I4, ps, eo, e4⟩ => ?_
  subst eo e4
  cases pl
  cases pu
  have I5 : Inv X pins σ H4 { s4 with heap := s4.heap.push { cls := .type "slice", data := .fields #[.none, .none, vs] } } := I4.kept (t' := s4.toks) fun b ob q => Heap.get?_push_of_some _ q
  obtain ⟨its, r, ht, hz⟩ := I5.tuple hx
  have h2 : ∃ y1 y2, its = [y1, y2] ∧ RelV x1 y1 ∧ RelV x2 y2 := by
    cases r with
    | cons r1 r2 =>
      cases r2 with
      | cons r2 r3 =>
        cases r3
        exact ⟨_, _, rfl, r1, r2⟩
  obtain ⟨y1, y2, rfl, g1, g2⟩ := h2
  show wpAny (model X.prog X.w) X.A (subscriptTail e (.Slice none none (some (.UnaryOp .USub (.Constant (.int 1) k p1) p2)) p3) (.ref a) (.ref s4.heap.objs.size)) (EP X pins σ Q) X.xe { s4 with heap := s4.heap.push { cls := .type "slice", data := .fields #[.none, .none, vs] } }
  refine tail_any (ops := [.ref a, .ref s4.heap.objs.size]) (show Shared.TypeIs _ _ "tuple" from IsTup.typeIs ht) (PyProof.Rows.slot_tuple_getitem.lookup) ?_ (by with_unfolding_all rfl)
  refine getItem_tuple_back2 (x := y1) (y := y2) ht (Heap.IsSliceOf.new _ .none .none vs) ps ?_
  refine ⟨.ref _, _, I5.laid (t' := s4.toks) (o := .tup [x2, x1]) (fun b ob q => Heap.get?_push_of_some _ q) (Nat.le_refl _) ?_, rfl, q _ (I5.hok.fresh (Nat.le_refl _))⟩
  exact ⟨by show 2 ≤ sizeLine; decide, [y2, y1], .cons g2 (.cons g1 .nil), ⟨_, Heap.get?_push_size _ rfl, rfl, _, rfl⟩⟩
end SC

set_option maxHeartbeats 4000000
/-! built-ins, walks, comprehensions, statements, defs on data -/
namespace SC
open PySem PySem.Spec PyProof.Rows L2 RZ

/-! ### built-in calls -/
def NoStar (e : Expr) : Prop := ∀ es env, starEach (e :: es) env = (false, eval e env) :: starEach es env
section
variable {X : Cx} {N : List Str} {sc : Scope} {k : Nat} {ρ : Rho} {d d1 d2 d3 : PyData} {ds : List PyData} {e a b : Expr} {es : List Expr} {p p2 pos : Pos} {i j : Int} {t u : Bool}
def tyD : PyData → String
  | .none => "NoneType"
  | .bool _ => "bool"
  | .int _ => "int"
  | .str _ => "str"
  | .list _ => "list"
  | .tuple _ => "tuple"
  | .dict _ => "dict"
theorem tyx {K : PySem.W.Frag} {H : Hp} {v : V} (h : Dq K H v d) : TyX K H v (.type (tyD d)) := by
  cases h with
  | non => exact .base .non
  | bl b => exact .base (.bl b)
  | int i => exact .base (.int i)
  | str x => exact .base (.str x)
  | lst h1 h2 => exact .base (.lst h1)
  | tup h1 h2 =>
    rcases h1 with (h1 | ⟨o, h1⟩) | ⟨o, its, n, h1, h3, _⟩
    · exact .base (.tup h1)
    · exact .fTuple h1
    · exact .kTuple h1 h3
theorem k_ii : kitB "int" "int" = some true := by decide +kernel
theorem k_ib : kitB "int" "bool" = some false := by decide +kernel
theorem k_tt : kitB "tuple" "tuple" = some true := by decide +kernel
theorem k_ss : kitB "str" "str" = some true := by decide +kernel
theorem pd_isi {x : Str} {n : String} (c : Ctx X N sc k) (fr : X.mg "isinstance" = none) (ft : X.mg x = none) (hb : bootBuiltins x = some (.type n)) (ha : PD X e ρ d) (hk : kitB (tyD d) n = some t)
    (hg : sc.names.lookup ("isinstance" : Str) = some .globalImplicit := by rfl) (hg2 : sc.names.lookup x = some .globalImplicit := by rfl) (hx : x ≠ "__name__" := by decide) (hd : (x == ("__debug__" : Str)) = false := by decide) (ns : NoStar e := by exact fun _ _ => rfl) :
    PD X (.Call (.Name "isinstance" p) [e, .Name x p2] [] pos) ρ (.bool t) :=
  PD.mk (pe_callB call_isi (c.gl hg) fr boot_isinstance (pa_cons pe_W (pa_cons (pe_bltn (v := .ty n) (c.gl hg2) ft hb rfl hx hd) pa_nil) (ns _ _)) (he := ns _ _)) fun σ H E Q q => ha σ H E _ fun v H1 s1 hv => ⟨v, .ty n, .type (tyD d), .type n, t, rfl, .ty n, tyx hv, kit_ty hk, q _ H1 s1 (.bl t)⟩
theorem pd_isiI {x : Str} {n : String} (c : Ctx X N sc k) (fr : X.mg "isinstance" = none) (ft : X.mg x = none) (hb : bootBuiltins x = some (.type n)) (ha : PD X e ρ (.int i)) (hk : kitB "int" n = some t)
    (hg : sc.names.lookup ("isinstance" : Str) = some .globalImplicit := by rfl) (hg2 : sc.names.lookup x = some .globalImplicit := by rfl) (hx : x ≠ "__name__" := by decide) (hd : (x == ("__debug__" : Str)) = false := by decide) (ns : NoStar e := by exact fun _ _ => rfl) :
    PD X (.Call (.Name "isinstance" p) [e, .Name x p2] [] pos) ρ (.bool t) := pd_isi c fr ft hb ha hk hg hg2 hx hd ns
theorem pd_isiT {x : Str} {n : String} (c : Ctx X N sc k) (fr : X.mg "isinstance" = none) (ft : X.mg x = none) (hb : bootBuiltins x = some (.type n)) (ha : PD X e ρ (.tuple ds)) (hk : kitB "tuple" n = some t)
    (hg : sc.names.lookup ("isinstance" : Str) = some .globalImplicit := by rfl) (hg2 : sc.names.lookup x = some .globalImplicit := by rfl) (hx : x ≠ "__name__" := by decide) (hd : (x == ("__debug__" : Str)) = false := by decide) (ns : NoStar e := by exact fun _ _ => rfl) :
    PD X (.Call (.Name "isinstance" p) [e, .Name x p2] [] pos) ρ (.bool t) := pd_isi c fr ft hb ha hk hg hg2 hx hd ns
theorem pd_isiS {x : Str} {n : String} {y : Str} (c : Ctx X N sc k) (fr : X.mg "isinstance" = none) (ft : X.mg x = none) (hb : bootBuiltins x = some (.type n)) (ha : PD X e ρ (.str y)) (hk : kitB "str" n = some t)
    (hg : sc.names.lookup ("isinstance" : Str) = some .globalImplicit := by rfl) (hg2 : sc.names.lookup x = some .globalImplicit := by rfl) (hx : x ≠ "__name__" := by decide) (hd : (x == ("__debug__" : Str)) = false := by decide) (ns : NoStar e := by exact fun _ _ => rfl) :
    PD X (.Call (.Name "isinstance" p) [e, .Name x p2] [] pos) ρ (.bool t) := pd_isi c fr ft hb ha hk hg hg2 hx hd ns
theorem pd_lenT (c : Ctx X N sc k) (fr : X.mg "len" = none) (ha : PD X e ρ (.tuple ds)) (hg : sc.names.lookup ("len" : Str) = some .globalImplicit := by rfl) (ns : NoStar e := by exact fun _ _ => rfl) : PD X (.Call (.Name "len" p) [e] [] pos) ρ (.int ds.length) :=
  PD.mk (pe_callB call_len_seq (c.gl hg) fr PySem.boot_len (pa_cons pe_W pa_nil (ns _ _)) (he := ns _ _)) fun σ H E Q q => ha σ H E _ fun v H1 s1 hv => by
    cases hv with
    | tup h1 h2 =>
      refine ⟨_, _, rfl, .inr h1, ?_⟩
      rw [h2.len]
      exact q _ H1 s1 (.int _)
theorem pd_lenL (c : Ctx X N sc k) (fr : X.mg "len" = none) (ha : PD X e ρ (.list ds)) (hg : sc.names.lookup ("len" : Str) = some .globalImplicit := by rfl) (ns : NoStar e := by exact fun _ _ => rfl) : PD X (.Call (.Name "len" p) [e] [] pos) ρ (.int ds.length) :=
  PD.mk (pe_callB call_len_seq (c.gl hg) fr PySem.boot_len (pa_cons pe_W pa_nil (ns _ _)) (he := ns _ _)) fun σ H E Q q => ha σ H E _ fun v H1 s1 hv => by
    cases hv with
    | lst h1 h2 =>
      refine ⟨_, _, rfl, .inl (SqL.of h1), ?_⟩
      rw [h2.len]
      exact q _ H1 s1 (.int _)
theorem abs_eq (i : Int) : (if i < 0 then -i else i) = (i.natAbs : Int) := by split <;> omega
theorem pd_abs (c : Ctx X N sc k) (fr : X.mg "abs" = none) (ha : PD X e ρ (.int i)) (hg : sc.names.lookup ("abs" : Str) = some .globalImplicit := by rfl) (ns : NoStar e := by exact fun _ _ => rfl) : PD X (.Call (.Name "abs" p) [e] [] pos) ρ (.int (i.natAbs : Int)) :=
  PD.mk (pe_callB call_abs (c.gl hg) fr PyProof.Rows.boot_abs (pa_cons pe_W pa_nil (ns _ _)) (he := ns _ _)) fun σ H E Q q => ha σ H E _ fun v H1 s1 hv => by
    cases hv
    refine ⟨i, rfl, ?_⟩
    rw [abs_eq]
    exact q _ H1 s1 (.int _)
theorem pd_intB (c : Ctx X N sc k) (fr : X.mg "int" = none) (ha : PD X e ρ (.bool t)) (hg : sc.names.lookup ("int" : Str) = some .globalImplicit := by rfl) (ns : NoStar e := by exact fun _ _ => rfl) : PD X (.Call (.Name "int" p) [e] [] pos) ρ (.int (if t then 1 else 0)) :=
  PD.mk (pe_callTy call_int1 (c.gl hg) fr PyProof.Rows.boot_int (pa_cons pe_W pa_nil (ns _ _)) (he := ns _ _)) fun σ H E Q q => ha σ H E _ fun v H1 s1 hv => by
    cases hv
    exact .inr ⟨t, rfl, q _ H1 s1 (.int _)⟩
theorem pd_tupL (c : Ctx X N sc k) (fr : X.mg "tuple" = none) (ha : PD X e ρ (.list ds)) (hg : sc.names.lookup ("tuple" : Str) = some .globalImplicit := by rfl) (ns : NoStar e := by exact fun _ _ => rfl) : PD X (.Call (.Name "tuple" p) [e] [] pos) ρ (.tuple ds) :=
  PD.mk (pe_callTy call_tuple_of (c.gl hg) fr PyProof.Rows.boot_tuple (pa_cons pe_W pa_nil (ns _ _)) (he := ns _ _)) fun σ H E Q q => ha σ H E _ fun v H1 s1 hv => by
    cases hv with
    | lst h1 h2 => exact ⟨_, _, rfl, .inl ⟨SqL.of h1, fun l hl => q _ _ (s1.trans (same_upd hl)) (.tup (SqT.of upd_same) (h2.mono (same_upd hl)))⟩⟩
theorem pd_all {bs : List Bool} (c : Ctx X N sc k) (fr : X.mg "all" = none) (ha : PD X e ρ (.list (bs.map .bool))) (hg : sc.names.lookup ("all" : Str) = some .globalImplicit := by rfl) (ns : NoStar e := by exact fun _ _ => rfl) : PD X (.Call (.Name "all" p) [e] [] pos) ρ (.bool (bs.all id)) :=
  PD.mk (pe_callB (cr_all c.calm) (c.gl hg) fr (by decide +kernel) (pa_cons pe_W pa_nil (ns _ _)) (he := ns _ _)) fun σ H E Q q => ha σ H E _ fun v H1 s1 hv => by
    cases hv with
    | lst h1 h2 =>
      rw [h2.bools] at h1
      exact ⟨_, bs, rfl, SqL.of h1, q _ H1 s1 (.bl _)⟩
theorem pd_any {bs : List Bool} (c : Ctx X N sc k) (fr : X.mg "any" = none) (ha : PD X e ρ (.list (bs.map .bool))) (hg : sc.names.lookup ("any" : Str) = some .globalImplicit := by rfl) (ns : NoStar e := by exact fun _ _ => rfl) : PD X (.Call (.Name "any" p) [e] [] pos) ρ (.bool (bs.any id)) :=
  PD.mk (pe_callB (cr_any c.calm) (c.gl hg) fr (by decide +kernel) (pa_cons pe_W pa_nil (ns _ _)) (he := ns _ _)) fun σ H E Q q => ha σ H E _ fun v H1 s1 hv => by
    cases hv with
    | lst h1 h2 =>
      rw [h2.bools] at h1
      exact ⟨_, bs, rfl, SqL.of h1, q _ H1 s1 (.bl _)⟩
/-- x not in t, t a tuple of texts -/
theorem pdt_niT {x : Str} {xs : List Str} (ha : PD X a ρ (.str x)) (hb : PD X b ρ (.tuple (xs.map .str))) (hm : behindInMarks .NotIn b = false := by rfl) : PDT X (.Compare a [.NotIn] [b] pos) ρ (!inV (.str x) (xs.map V.str)) :=
  pdt_cmp op_notIn_seq ha hb (fun H v w hv hw Q q => by
    cases hv
    cases hw with
    | tup h1 h2 =>
      rw [h2.strs] at h1
      exact ⟨_, _, rfl, .inr h1, rfl, by rw [List.all_map]; exact List.all_eq_true.mpr fun _ _ => rfl, q _ H (Same.refl H) (.bl _)⟩) hm
end

/-! ### walks -/
section
variable {K : PySem.W.Frag} {H : Hp} {a b : Addr} {xs ys : List V} {ds es : List PyData}
theorem itd_tup (h : SqT K H a xs) (hd : DqA K H xs ds) : ItD K (Itt K a) H ds := fun i H' s => by
  have h' := sqT_mono s h
  refine ⟨fun d e => ?_, fun hl => ⟨xs, h', by rw [hd.len]; exact hl⟩⟩
  obtain ⟨v, e1, e2⟩ := hd.get e
  refine ⟨⟨xs, v, h', e1⟩, fun x H2 y => ?_⟩
  obtain ⟨rfl, y⟩ := y
  have := y xs h'
  rw [e1] at this
  cases this
  exact ⟨Same.refl _, e2.mono s⟩
theorem itd_list (h : H a = some (.lst xs)) (hd : DqA K H xs ds) : ItD K (Itl K a) H ds := fun i H' s => by
  have h' : SqL K H' a xs := SqL.of (s _ _ h)
  refine ⟨fun d e => ?_, fun hl => ⟨xs, h', by rw [hd.len]; exact hl⟩⟩
  obtain ⟨v, e1, e2⟩ := hd.get e
  refine ⟨⟨xs, v, h', e1⟩, fun x H2 y => ?_⟩
  obtain ⟨rfl, y⟩ := y
  have := y xs h'
  rw [e1] at this
  cases this
  exact ⟨Same.refl _, e2.mono s⟩
def rngD (lo : Int) (n : Nat) : List PyData := (List.range n).map fun i => .int (lo + (i : Nat))
theorem rngD_len {lo : Int} {n : Nat} : (rngD lo n).length = n := by simp [rngD]
theorem rngD_get {lo : Int} {n i : Nat} {d : PyData} (h : (rngD lo n)[i]? = some d) : d = .int (lo + i) ∧ i < n := by
  unfold rngD at h
  rw [List.getElem?_map] at h
  by_cases hi : i < n
  · rw [List.getElem?_range hi] at h
    cases h
    exact ⟨rfl, hi⟩
  · rw [List.getElem?_eq_none (by simpa using hi)] at h
    cases h
theorem itd_range {lo : Int} {n : Nat} : ItD K (Itr lo n) H (rngD lo n) := fun i H' s => by
  refine ⟨fun d e => ?_, fun hl => by rw [rngD_len] at hl; exact hl⟩
  obtain ⟨rfl, hi⟩ := rngD_get e
  refine ⟨hi, fun x H2 y => ?_⟩
  obtain ⟨rfl, rfl⟩ := y
  exact ⟨Same.refl _, .int _⟩
def dnD (lo : Int) (n : Nat) : List PyData := (List.range n).map fun i => .int (lo + ((i : Nat) : Int) * -1)
theorem itd_down {lo : Int} {n : Nat} : ItD K (Itc lo (-1) n) H (dnD lo n) := fun i H' s => by
  refine ⟨fun d e => ?_, fun hl => by simp [dnD] at hl; exact hl⟩
  unfold dnD at e
  rw [List.getElem?_map] at e
  by_cases hi : i < n
  · rw [List.getElem?_range hi] at e
    cases e
    refine ⟨hi, fun x H2 y => ?_⟩
    obtain ⟨rfl, rfl⟩ := y
    exact ⟨Same.refl _, .int _⟩
  · rw [List.getElem?_eq_none (by simpa using hi)] at e
    cases e
def enD : Nat → List PyData → List PyData
  | _, [] => []
  | n, d :: ds => .tuple [.int (n : Nat), d] :: enD (n + 1) ds
theorem enD_len : ∀ (n : Nat) (ds : List PyData), (enD n ds).length = ds.length
  | _, [] => rfl
  | n, d :: ds => by simp [enD, enD_len (n + 1) ds]
theorem enD_get : ∀ (n : Nat) (ds : List PyData) {i : Nat} {d : PyData}, (enD n ds)[i]? = some d → ∃ e, ds[i]? = some e ∧ d = .tuple [.int ((n + i : Nat) : Int), e]
  | n, [], i, d, h => by simp [enD] at h
  | n, e :: ds, 0, d, h => by
    simp [enD] at h
    exact ⟨e, rfl, h.symm⟩
  | n, e :: ds, i + 1, d, h => by
    simp [enD] at h
    obtain ⟨e', h1, h2⟩ := enD_get (n + 1) ds h
    refine ⟨e', by simpa using h1, ?_⟩
    rw [h2, show n + 1 + i = n + (i + 1) by omega]
theorem itd_enT (h : SqT K H a xs) (hd : DqA K H xs ds) : ItD K (IteT K a) H (enD 0 ds) := fun i H' s => by
  have h' := sqT_mono s h
  refine ⟨fun d e => ?_, fun hl => ⟨xs, h', by rw [hd.len]; rw [enD_len] at hl; exact hl⟩⟩
  obtain ⟨e0, g1, rfl⟩ := enD_get 0 ds e
  obtain ⟨v, e1, e2⟩ := hd.get g1
  refine ⟨⟨xs, v, h', e1⟩, fun x H2 y => ?_⟩
  obtain ⟨T, x', rfl, hT, rfl, y⟩ := y
  have := y xs h'
  rw [e1] at this
  cases this
  refine ⟨same_upd hT, .tup (SqT.of upd_same) (.cons ?_ (.cons (e2.mono (s.trans (same_upd hT))) .nil))⟩
  rw [Nat.zero_add]
  exact .int _
def zipD : List PyData → List PyData → List PyData
  | d :: ds, e :: es => .tuple [d, e] :: zipD ds es
  | _, _ => []
theorem zipD_len : ∀ (ds es : List PyData), (zipD ds es).length = min ds.length es.length
  | [], es => by simp [zipD]
  | d :: ds, [] => by simp [zipD]
  | d :: ds, e :: es => by simp [zipD, zipD_len ds es]
theorem zipD_get : ∀ (ds es : List PyData) {i : Nat} {d : PyData}, (zipD ds es)[i]? = some d → ∃ x y, ds[i]? = some x ∧ es[i]? = some y ∧ d = .tuple [x, y]
  | [], es, i, d, h => by simp [zipD] at h
  | x :: ds, [], i, d, h => by simp [zipD] at h
  | x :: ds, y :: es, 0, d, h => by
    simp [zipD] at h
    exact ⟨x, y, rfl, rfl, h.symm⟩
  | x :: ds, y :: es, i + 1, d, h => by
    simp [zipD] at h
    obtain ⟨x', y', h1, h2, h3⟩ := zipD_get ds es h
    exact ⟨x', y', by simpa using h1, by simpa using h2, h3⟩
theorem itd_zipT (h : SqT K H a xs) (hd : DqA K H xs ds) (g : SqT K H b ys) (ge : DqA K H ys es) : ItD K (ItzT K a b) H (zipD ds es) := fun i H' s => by
  have h' := sqT_mono s h
  have g' := sqT_mono s g
  refine ⟨fun d e => ?_, fun hl => ⟨xs, ys, h', g', by rw [hd.len, ge.len]; rw [zipD_len] at hl; omega⟩⟩
  obtain ⟨x0, y0, g1, g2, rfl⟩ := zipD_get ds es e
  obtain ⟨v, e1, e2⟩ := hd.get g1
  obtain ⟨w, e3, e4⟩ := ge.get g2
  refine ⟨⟨xs, ys, v, w, h', g', e1, e3⟩, fun x H2 y => ?_⟩
  obtain ⟨T, x', y', rfl, hT, rfl, y1, y2⟩ := y
  have q1 := y1 xs h'
  have q2 := y2 ys g'
  rw [e1] at q1
  rw [e3] at q2
  cases q1
  cases q2
  exact ⟨same_upd hT, .tup (SqT.of upd_same) (.cons (e2.mono (s.trans (same_upd hT))) (.cons (e4.mono (s.trans (same_upd hT))) .nil))⟩
end
section
variable {X : Cx} {N : List Str} {sc : Scope} {k : Nat} {ρ : Rho} {ds es : List PyData} {e e2 tg : Expr} {p pos tpos : Pos} {i j : Int} {elts : List Expr} {kk : Nat}
theorem pdi_tup (ha : PD X e ρ (.tuple ds)) : PDI X tg e ρ ds := PDI.mk (pi_tup pe_W) fun σ H E R q => ha σ H E _ fun v H1 s1 hv => by
  cases hv with
  | tup h1 h2 => exact ⟨_, rfl, ⟨_, h1⟩, q _ H1 s1 (itd_tup h1 h2)⟩
theorem pdi_list (ha : PD X e ρ (.list ds)) : PDI X tg e ρ ds := PDI.mk (pi_list pe_W) fun σ H E R q => ha σ H E _ fun v H1 s1 hv => by
  cases hv with
  | lst h1 h2 => exact ⟨_, rfl, ⟨_, SqL.of h1⟩, q _ H1 s1 (itd_list h1 h2)⟩
theorem pdi_range (c : Ctx X N sc k) (fr : X.mg "range" = none) (ha : PD X e ρ (.int i)) (h0 : 0 ≤ i ∧ i ≤ 100000) (hg : sc.names.lookup ("range" : Str) = some .globalImplicit := by rfl) (ns : NoStar e := by exact fun _ _ => rfl) : PDI X tg (.Call (.Name "range" p) [e] [] pos) ρ (rngD 0 i.toNat) :=
  PDI.mk (pi_range1 (c.gl hg) fr (pa_cons pe_W pa_nil (ns _ _)) (ns _ _)) fun σ H E R q => ha σ H E _ fun v H1 s1 hv => by
    cases hv
    exact ⟨i, rfl, by omega, by omega, q _ H1 s1 itd_range⟩
theorem pdi_down {a b c3 : Expr} (c : Ctx X N sc k) (fr : X.mg "range" = none) (ha : PD X a ρ (.int i)) (hb : PD X b ρ (.int (-1))) (hc : PD X c3 ρ (.int (-1))) (h0 : -1 ≤ i ∧ i ≤ 100000) (hg : sc.names.lookup ("range" : Str) = some .globalImplicit := by rfl) (n1 : NoStar a := by exact fun _ _ => rfl) (n2 : NoStar b := by exact fun _ _ => rfl) (n3 : NoStar c3 := by exact fun _ _ => rfl) :
    PDI X tg (.Call (.Name "range" p) [a, b, c3] [] pos) ρ (dnD i (i + 1).toNat) :=
  PDI.mk (pi_range3 (c.gl hg) fr (pa_cons pe_W (pa_cons pe_W (pa_cons pe_W pa_nil (n3 _ _)) (n2 _ _)) (n1 _ _)) (n1 _ _) (by rw [n2, n3]; rfl)) fun σ H E R q => ha σ H E _ fun v H1 s1 hv => hb σ H1 (E.mono s1) _ fun v2 H2 s2 hv2 => hc σ H2 (E.mono (s1.trans s2)) _ fun v3 H3 s3 hv3 => by
    cases hv
    cases hv2
    cases hv3
    have e1 : (i - -1).toNat = (i + 1).toNat := by omega
    refine ⟨i, -1, -1, (i - -1).toNat, rfl, RgC.neg (by omega) (by omega) (by omega) (by omega), ?_⟩
    rw [e1]
    exact q _ H3 (s1.trans (s2.trans s3)) itd_down
theorem pdi_enT (c : Ctx X N sc k) (fr : X.mg "enumerate" = none) (ha : PD X e ρ (.tuple ds)) (hg : sc.names.lookup ("enumerate" : Str) = some .globalImplicit := by rfl) (ns : NoStar e := by exact fun _ _ => rfl) : PDI X (.Tuple elts kk tpos) (.Call (.Name "enumerate" p) [e] [] pos) ρ (enD 0 ds) :=
  PDI.mk (pi_enumT (c.gl hg) fr (pa_cons pe_W pa_nil (ns _ _)) (ns _ _)) fun σ H E R q => ha σ H E _ fun v H1 s1 hv => by
    cases hv with
    | tup h1 h2 => exact ⟨_, _, rfl, h1, q _ H1 s1 (itd_enT h1 h2)⟩
theorem pdi_zipT (c : Ctx X N sc k) (fr : X.mg "zip" = none) (ha : PD X e ρ (.tuple ds)) (hb : PD X e2 ρ (.tuple es)) (hg : sc.names.lookup ("zip" : Str) = some .globalImplicit := by rfl) (n1 : NoStar e := by exact fun _ _ => rfl) (n2 : NoStar e2 := by exact fun _ _ => rfl) : PDI X (.Tuple elts kk tpos) (.Call (.Name "zip" p) [e, e2] [] pos) ρ (zipD ds es) :=
  PDI.mk (pi_zipA (c.gl hg) fr (pa_cons pe_W (pa_cons pe_W pa_nil (n2 _ _)) (n1 _ _)) (n1 _ _) (by rw [n2]; rfl)) fun σ H E R q => ha σ H E _ fun v H1 s1 hv => hb σ H1 (E.mono s1) _ fun w H2 s2 hw => by
    cases hv with
    | tup h1 h2 =>
      cases hw with
      | tup g1 g2 =>
        have h1' := sqT_mono s2 h1
        exact ⟨_, _, _, _, rfl, .inr ⟨h1', g1, q _ H2 (s1.trans s2) (itd_zipT h1' (h2.mono s2) g1 g2)⟩⟩
end

/-! ### targets -/
/-- the target stores data d: f tells the names' data behind it; the slots that it sets are among vs -/
def GD (K : PySem.W.Frag) (g : TG) (d : PyData) (f : Rho → Rho) (vs : List Nat) : Prop := ∀ v σ H ρ, Dq K H v d → EnvD K H σ ρ → ∀ Q : L2.St → Hp → Prop, (∀ σ', EnvD K H σ' (f ρ) → wipe σ' vs = wipe σ vs → Q σ' H) → g v σ H Q
theorem wipe_set {i : Nat} {x : Option V} : ∀ {vs : List Nat} {σ : L2.St}, i ∈ vs → wipe (σ.set i x) vs = wipe σ vs
  | v :: vs, σ, h => by
    unfold wipe
    by_cases hv : i ∈ vs
    · rw [wipe_set hv]
    · have e : i = v := by
        rcases List.mem_cons.mp h with e | e
        · exact e
        · exact absurd e hv
      subst e
      have comm : ∀ (ws : List Nat), i ∉ ws → wipe (σ.set i x) ws = (wipe σ ws).set i x := by
        intro ws
        induction ws with
        | nil => intro _; rfl
        | cons w ws ih =>
          intro hw
          unfold wipe
          rw [ih fun z => hw (List.mem_cons_of_mem _ z), List.set_comm _ _ (fun z => hw (by rw [z]; exact List.mem_cons_self))]
      rw [comm vs hv, List.set_set]
theorem wipe_wipe {σ : L2.St} : ∀ {vs : List Nat}, wipe (wipe σ vs) vs = wipe σ vs := by
  have sub : ∀ (ws vs : List Nat), (∀ w ∈ ws, w ∈ vs) → wipe (wipe σ ws) vs = wipe σ vs := by
    intro ws
    induction ws with
    | nil => intro vs _; rfl
    | cons w ws ih =>
      intro vs h
      show wipe ((wipe σ ws).set w none) vs = wipe σ vs
      rw [wipe_set (h w List.mem_cons_self), ih vs fun z hz => h z (List.mem_cons_of_mem _ hz)]
  exact fun {vs} => sub vs vs fun _ h => h
section
variable {K : PySem.W.Frag} {d d1 d2 : PyData} {vs : List Nat}
theorem gd_name {i : Nat} (h : i ∈ vs) : GD K (gName i) d (fun ρ => ρ.set i (some d)) vs := fun v σ H ρ hv E Q q => q _ (E.set hv i) (wipe_set h)
theorem gd_tup2 {i j : Nat} (hi : i ∈ vs) (hj : j ∈ vs) : GD K (gTup K 2 (gCons (gName i) (gCons (gName j) gNil))) (.tuple [d1, d2]) (fun ρ => (ρ.set i (some d1)).set j (some d2)) vs := fun v σ H ρ hv E Q q => by
  cases hv with
  | tup h1 h2 =>
    cases h2 with
    | cons k1 h2 =>
      cases h2 with
      | cons k2 h2 =>
        cases h2
        refine ⟨_, _, rfl, h1, rfl, _, _, rfl, _, _, rfl, rfl, ?_⟩
        exact q _ ((E.set k1 i).set k2 j) (by rw [wipe_set hj, wipe_set hi])
end

/-! ### comprehensions -/
/-- the block's contexts -/
def InBlk (X : Cx) (scope : Scope) (X' : Cx) : Prop := ∃ s H C cl fp, X' = X.blk s H scope (compEnvC scope cl C X.env) fp
theorem InBlk.ctx {X X' : Cx} {N : List Str} {sc scope : Scope} {k : Nat} (c : Ctx X N sc k) (h : InBlk X scope X') : Ctx X' N (relS scope sc) k := by
  obtain ⟨s, H, C, cl, fp, rfl⟩ := h
  refine ⟨c.hN, ?_, c.calm, c.room, c.nd⟩
  show relS scope X.env.scope = relS scope sc
  rw [c.hs]
structure SameW (X X' : Cx) : Prop where
  prog : X'.prog = X.prog
  w : X'.w = X.w
  K : X'.K = X.K
  mg : X'.mg = X.mg
  base : X'.base = X.base
theorem InBlk.same {X X' : Cx} {scope : Scope} (h : InBlk X scope X') : SameW X X' := by
  obtain ⟨s, H, C, cl, fp, rfl⟩ := h
  exact ⟨rfl, rfl, rfl, rfl, rfl⟩
theorem Kn.blk {X X' : Cx} {x : Str} {ps : List Str} {sp : Sp} {k : Nat} (h : SameW X X') (g : KnX X x ps sp k) : KnX X' x ps sp k := by
  obtain ⟨h1, h2, h3, h4, h5⟩ := h
  unfold KnX
  rw [h1, h2, h3, h4, h5]
  exact g
theorem Kn.blkP {X X' : Cx} {x : Str} {ps : List Str} {P : List PyData → PyData → Prop} {k : Nat} (h : SameW X X') (g : KnX X x ps (spP X.K P) k) : KnX X' x ps (spP X'.K P) k := by
  have g2 := Kn.blk h g
  rw [← h.K] at g2
  exact g2
theorem Cst.blk {X X' : Cx} {x : Str} {d : PyData} (h : SameW X X') (g : Cst X x d) : Cst X' x d := by
  unfold Cst
  rw [h.mg, h.K]
  exact g
theorem mgB {X X' : Cx} {x : Str} (h : SameW X X') (g : X.mg x = none) : X'.mg x = none := by
  rw [h.mg]
  exact g
def WB (X : Cx) (scope : Scope) (e : Expr) : TE := fun σ H Q => ∀ X', InBlk X scope X' → WE X' e σ H Q
def WTs (X : Cx) (ifs : List Expr) : TT := fun σ H Q => ∃ t, PTs X ifs t ∧ t σ H Q
abbrev PDTs (X : Cx) (ifs : List Expr) (ρ : Rho) (b : Bool) : Prop := ET X.K (WTs X ifs) ρ b
def WBT (X : Cx) (scope : Scope) (ifs : List Expr) : TT := fun σ H Q => ∀ X', InBlk X scope X' → WTs X' ifs σ H Q
theorem InBlk.ex (X : Cx) (scope : Scope) : ∃ X', InBlk X scope X' := ⟨_, X.s_0, X.H_0, 0, [], [], rfl⟩
theorem pe_WB {X X' : Cx} {scope : Scope} {e : Expr} (h : InBlk X scope X') : PE X' e (WB X scope e) := ⟨fun pins s σ H Q I q => pe_W.run pins s σ H Q I (q X' h)⟩
theorem pts_WB {X X' : Cx} {scope : Scope} {ifs : List Expr} (h : InBlk X scope X') : PTs X' ifs (WBT X scope ifs) := ⟨fun pins s σ H Q I q => let ⟨_, ht, z⟩ := q X' h; ht.run pins s σ H Q I z⟩
theorem pdts_nil {X : Cx} {ρ : Rho} : PDTs X [] ρ true := fun σ H E Q q => ⟨_, pts_nil, q H (Same.refl H)⟩
theorem pdts_one {X : Cx} {ρ : Rho} {c : Expr} {b : Bool} (h : PDT X c ρ b) : PDTs X [c] ρ b := fun σ H E Q q => ⟨_, pts_one pt_W, h σ H E Q q⟩
theorem ed_lc {X : Cx} {scope : Scope} {vs : List Nat} {ρ : Rho} {ds : List PyData} {tg iter elt : Expr} {ifs : List Expr} {g : TG} (F : PyData → Rho → Rho) (keep : PyData → Bool) (v : PyData → PyData)
    (hi : PDI X tg iter ρ ds) (hn : ds.length ≤ 100000) (tu : ∀ d ∈ ds, keep d = true → tupd (v d) = true) (gd : ∀ d ∈ ds, GD X.K g d (F d) vs)
    (ht : ∀ X', InBlk X scope X' → ∀ d ∈ ds, PDTs X' ifs (F d (wipeD ρ vs)) (keep d)) (he : ∀ X', InBlk X scope X' → ∀ d ∈ ds, keep d = true → PD X' elt (F d (wipeD ρ vs)) (v d)) :
    ED X.K (tLc (WI X tg iter) g (WBT X scope ifs) (WB X scope elt) vs) ρ (.list ((ds.filter keep).map v)) := fun σ H E Q q => by
  refine hi σ H E _ fun J H1 s1 hJ D nD => ?_
  have key : ∀ n, ∀ d, ds[n]? = some d → ((ds.take (n + 1)).filter keep).map v = ((ds.take n).filter keep).map v ++ (if keep d then [v d] else []) := fun n d e => by
    rw [List.take_add_one, e, List.filter_append, List.map_append]
    congr 1
    cases hk : keep d <;> simp [List.filter, hk]
  refine ⟨fun i m H' => i ≤ ds.length ∧ m = ds.length - i ∧ Same H1 H' ∧ ∃ acc, H' D = some (.lst acc) ∧ DqA X.K H' acc (((ds.take i).filter keep).map v), ⟨ds.length, Nat.zero_le _, rfl, same_upd nD, [], upd_same, by simp; exact .nil⟩, fun i m H' hW => ?_⟩
  obtain ⟨hi1, rfl, sH, acc, hD, hacc⟩ := hW
  obtain ⟨jg, js⟩ := hJ i H' sH
  by_cases hlt : i < ds.length
  · have hd : ds[i]? = some ds[i] := List.getElem?_eq_getElem hlt
    generalize ds[i] = d at hd
    have hm : d ∈ ds := List.mem_of_getElem? hd
    obtain ⟨go, yld⟩ := jg d hd
    refine .inr ⟨go, fun H2 => Same H1 H2 ∧ ∃ acc, H2 D = some (.lst acc) ∧ DqA X.K H2 acc (((ds.take (i + 1)).filter keep).map v), fun H2 ⟨a1, a2⟩ => ⟨ds.length - (i + 1), by omega, hlt, rfl, a1, a2⟩, fun x H2 y => ?_⟩
    obtain ⟨s2, dx⟩ := yld x H2 y
    have E2 : EnvD X.K H2 (wipe σ vs) (wipeD ρ vs) := (E.mono (s1.trans (sH.trans s2))).wipe _
    refine gd d hm x _ H2 _ dx E2 _ fun σ2 E3 hw => ⟨by rw [hw, wipe_wipe], fun X2 hX2 => ?_⟩
    have eK := hX2.same.K
    refine ht X2 hX2 d hm σ2 H2 (by rw [eK]; exact E3) _ fun H3 s3 => ?_
    cases hk : keep d with
    | false =>
      rw [if_neg (by decide)]
      refine ⟨sH.trans (s2.trans s3), acc, s3 _ _ (s2 _ _ hD), ?_⟩
      rw [key i d hd, hk]
      simp only [Bool.false_eq_true, if_false, List.append_nil]
      exact hacc.mono (s2.trans s3)
    | true =>
      rw [if_pos rfl]
      intro X3 hX3
      have eK3 := hX3.same.K
      refine he X3 hX3 d hm hk σ2 H3 (by rw [eK3]; exact E3.mono s3) _ fun z H4 s4 hz => ?_
      rw [eK3] at hz
      have hD4 := s4 _ _ (s3 _ _ (s2 _ _ hD))
      refine ⟨acc, hD4, ?_, ?_, acc ++ [z], upd_same, ?_⟩
      · rw [hacc.len]
        refine Nat.lt_of_le_of_lt (Nat.le_trans (by rw [List.length_map]; exact List.length_filter_le _ _) (Nat.le_trans (List.length_take_le _ _) (Nat.le_trans (Nat.le_of_lt hlt) hn))) (by decide)
      · intro b o e
        have nb : b ≠ D := ne_of_none e nD
        rw [upd_ne nb]
        exact s4 _ _ (s3 _ _ (s2 _ _ (sH _ _ e)))
      · rw [key i d hd, hk]
        simp only [if_true]
        have kp : Kept H4 (upd H4 D (.lst (acc ++ [z]))) := Kept.upd hD4
        refine DqA.append ?_ (.cons (Dq.kept kp _ _ (tu d hm hk) hz) .nil)
        refine DqA.kept kp _ _ (tupdA_all.mpr fun y hy => ?_) (hacc.mono (s2.trans (s3.trans s4)))
        obtain ⟨y0, h1, rfl⟩ := List.mem_map.mp hy
        obtain ⟨h2, h3⟩ := List.mem_filter.mp h1
        exact tu y0 (List.mem_of_mem_take h2) h3
  · have e : i = ds.length := by omega
    subst e
    rw [List.take_length] at hacc
    exact .inl ⟨js (Nat.le_refl _), q _ H' (s1.trans sH) (.lst hD hacc)⟩
/-- as a value -/
theorem pd_lc {X : Cx} {N : List Str} {sc scope : Scope} {k : Nat} {ρ : Rho} {ds : List PyData} {tg iter elt : Expr} {ifs : List Expr} {pos : Pos} {g : TG} (c : Ctx X N sc k) (own : List (Str × Nat)) (F : PyData → Rho → Rho) (keep : PyData → Bool) (v : PyData → PyData)
    (ok : blkC N sc scope own = true) (hi : PDI X tg iter ρ ds) (hn : ds.length ≤ 100000) (tu : ∀ d ∈ ds, keep d = true → tupd (v d) = true) (hg : ∀ X', InBlk X scope X' → Ctx X' N (relS scope sc) k → PG X' tg g) (gd : ∀ d ∈ ds, GD X.K g d (F d) (own.map (·.2)))
    (ht : ∀ X', InBlk X scope X' → Ctx X' N (relS scope sc) k → ∀ d ∈ ds, PDTs X' ifs (F d (wipeD ρ (own.map (·.2)))) (keep d)) (he : ∀ X', InBlk X scope X' → Ctx X' N (relS scope sc) k → ∀ d ∈ ds, keep d = true → PD X' elt (F d (wipeD ρ (own.map (·.2)))) (v d))
    (hs : ∀ x, foldedSetIterable iter X.env x = pure x := by intro _; rfl) : PD X (.ListComp elt [⟨tg, iter, ifs, 0⟩] scope pos) ρ (.list ((ds.filter keep).map v)) := by
  have okB : BlkOk X.N X.env.scope scope own := by
    rw [c.hN, c.hs]
    exact blkOk_by ok
  refine PD.mk (pe_lc c.calm c.nd' pi_W okB (fun s H C cl fp => ?_) (fun s H C cl fp => pts_WB ⟨s, H, C, cl, fp, rfl⟩) (fun s H C cl fp => pe_WB ⟨s, H, C, cl, fp, rfl⟩) hs) (ed_lc F keep v hi hn tu gd (fun X' h => ht X' h (h.ctx c)) (fun X' h => he X' h (h.ctx c)))
  exact hg _ ⟨s, H, C, cl, fp, rfl⟩ (InBlk.ctx c ⟨s, H, C, cl, fp, rfl⟩)
end SC

set_option maxHeartbeats 4000000
/-! statements and defs on data -/
namespace SC
open PySem PySem.Spec PyProof.Rows L2 RZ

/-- a block: from the names' data ρ it goes on with some ρ' of N, or hands back a datum of R -/
def SD (K : PySem.W.Frag) (ts : TS) (ρ : Rho) (N : Rho → Prop) (R : PyData → Prop) : Prop := ∀ σ H (D : Ends), EnvD K H σ ρ →
  (∀ ρ' σ' H', N ρ' → Same H H' → EnvD K H' σ' ρ' → D.nx σ' H') → (∀ d v H', R d → Same H H' → Dq K H' v d → D.rt v H') → ts D σ H
abbrev PSD (X : Cx) (sts : List Stmt) (ρ : Rho) (N : Rho → Prop) (R : PyData → Prop) : Prop := SD X.K (WSs X sts) ρ N R
/-- one statement's walk, then the rest -/
theorem ws_cons {X : Cx} {st : Stmt} {rest : List Stmt} {D : Ends} {σ : L2.St} {H : Hp} (h : WS X st { D with nx := WSs X rest D } σ H) : WSs X (st :: rest) D σ H := ⟨_, pss_cons ps_W pss_W, h⟩
theorem ws_of {X : Cx} {st : Stmt} {t : TS} {D : Ends} {σ : L2.St} {H : Hp} (h : PS X st t) (q : t D σ H) : WS X st D σ H := ⟨t, h, q⟩
theorem wss_nil {X : Cx} {D : Ends} {σ : L2.St} {H : Hp} (h : D.nx σ H) : WSs X [] D σ H := ⟨_, pss_nil, h⟩

section
variable {X : Cx} {N : List Str} {sc : Scope} {k : Nat} {ρ : Rho} {d d1 d2 d3 : PyData} {ds : List PyData} {e a b : Expr} {rest body els : List Stmt} {p p2 pos : Pos} {Nx : Rho → Prop} {R : PyData → Prop} {t : Bool}
theorem psd_nil (h : Nx ρ) : PSD X [] ρ Nx R := fun σ H D E n r => wss_nil (n ρ σ H h (Same.refl H) E)
theorem psd_mono {Nx' : Rho → Prop} {R' : PyData → Prop} {sts : List Stmt} (h : PSD X sts ρ Nx' R') (hn : ∀ ρ, Nx' ρ → Nx ρ) (hr : ∀ d, R' d → R d) : PSD X sts ρ Nx R := fun σ H D E n r => h σ H D E (fun ρ' σ' H' z => n ρ' σ' H' (hn ρ' z)) fun d v H' z => r d v H' (hr d z)
/-- x = e -/
theorem psd_set {x : Str} (c : DCtx X N sc k) (i : Nat) (he : PD X e ρ d) (hk : PSD X rest (ρ.set i (some d)) Nx R) (hN : N[i]? = some x := by rfl) (hx : Loc sc x := by first | exact Or.inl rfl | exact Or.inr rfl) (hs : swapsWith e (some (.Name x p)) pos.line X.env = pure false := by rfl) :
    PSD X (.Assign [.Name x p] e pos :: rest) ρ Nx R := fun σ H D E n r => ws_cons (ws_of (ps_set (i := i) c.nd' (by rw [c.hN]; exact hN) (c.loc hx) pe_W hs (.inl (c.fn x))) (he σ H E _ fun v H1 s1 hv =>
  hk _ H1 D ((E.mono s1).set hv i) (fun ρ' σ' H' h s => n ρ' σ' H' h (s1.trans s)) fun d v H' h s => r d v H' h (s1.trans s)))
/-- x, y = e1, e2 (names of the def alone) -/
theorem psd_par {x y : Str} {px py pt pt2 : Pos} {kt k2 : Nat} (c : DCtx X N sc k) (i j : Nat) (h1 : PD X a ρ d1) (h2 : PD X b ρ d2) (hk : PSD X rest ((ρ.set i (some d1)).set j (some d2)) Nx R)
    (hw : swappedStores [.Tuple [.Name x px, .Name y py] kt pt] (.Tuple [a, b] k2 pt2) X.env = pure (some [x, y])) (hi : N[i]? = some x := by rfl) (hj : N[j]? = some y := by rfl) (hij : i ≠ j := by decide)
    (hx : sc.names.lookup x = some .local := by rfl) (hy : sc.names.lookup y = some .local := by rfl) (n1 : NoStar a := by exact fun _ _ => rfl) (n2 : NoStar b := by exact fun _ _ => rfl)
    (hs : swapsWithSole [.Tuple [.Name x px, .Name y py] kt pt] (.Tuple [a, b] k2 pt2) pos.line X.env = pure false := by rfl) :
    PSD X (.Assign [.Tuple [.Name x px, .Name y py] kt pt] (.Tuple [a, b] k2 pt2) pos :: rest) ρ Nx R := fun σ H D E n r =>
  ws_cons (ws_of (ps_par (i := i) (j := j) c.calm c.nd' (by rw [c.hN]; exact hi) (by rw [c.hN]; exact hj) hij (c.lc hx) (c.lc hy) (pa_cons pe_W (pa_cons pe_W pa_nil (n2 _ _)) (n1 _ _)) hw hs)
    (h1 σ H E _ fun v H1 s1 hv => h2 σ H1 (E.mono s1) _ fun w H2 s2 hw => ⟨v, w, rfl, hk _ H2 D (((E.mono (s1.trans s2)).set (hv.mono s2) i).set hw j) (fun ρ' σ' H' h s => n ρ' σ' H' h ((s1.trans s2).trans s)) fun d v H' h s => r d v H' h ((s1.trans s2).trans s)⟩))
theorem psd_ret (he : PD X e ρ d) (h : R d) : PSD X (.Return (some e) pos :: rest) ρ Nx R := fun σ H D E n r => ws_cons (ws_of (ps_ret pe_W) (he σ H E _ fun v H1 s1 hv => r d v H1 h s1 hv))
/-- an if; where both ways go on, each tells the rest -/
theorem psd_if {c : Expr} (hc : PDT X c ρ t) (h1 : t = true → PSD X body ρ (fun ρ' => PSD X rest ρ' Nx R) R) (h2 : t = false → PSD X els ρ (fun ρ' => PSD X rest ρ' Nx R) R) : PSD X (.If c body els pos :: rest) ρ Nx R := fun σ H D E n r =>
  ws_cons (ws_of (ps_if pt_W pss_W pss_W) (hc σ H E _ fun H1 s1 => by
    have go : ∀ {sts : List Stmt}, PSD X sts ρ (fun ρ' => PSD X rest ρ' Nx R) R → WSs X sts { D with nx := WSs X rest D } σ H1 := fun {sts} h =>
      h σ H1 _ (E.mono s1) (fun ρ' σ' H' h' s E' => h' σ' H' D E' (fun ρ2 σ2 H2 z s2 => n ρ2 σ2 H2 z (s1.trans (s.trans s2))) fun d v H2 z s2 => r d v H2 z (s1.trans (s.trans s2))) fun d v H' z s => r d v H' z (s1.trans s)
    cases t with
    | true =>
      rw [if_pos rfl]
      exact go (h1 rfl)
    | false =>
      rw [if_neg (by decide)]
      exact go (h2 rfl)))
/-- for tg in iter -/
theorem psd_for {tg iter : Expr} {g : TG} (c : DCtx X N sc k) (F : PyData → Rho → Rho) (vs : List Nat) (I : Nat → Rho → Prop) (hi : PDI X tg iter ρ ds) (hg : PG X tg g) (gd : ∀ d ∈ ds, GD X.K g d (F d) vs) (h0 : I 0 ρ)
    (hb : ∀ (i : Nat) d ρ', ds[i]? = some d → I i ρ' → PSD X body (F d ρ') (I (i + 1)) R) (he : ∀ ρ', I ds.length ρ' → PSD X rest ρ' Nx R) (hs : ∀ x, foldedSetIterable iter X.env x = pure x := by intro _; rfl) :
    PSD X (.For tg iter body [] pos :: rest) ρ Nx R := fun σ H D E n r =>
  ws_cons (ws_of (ps_for c.never c.calm pi_W hg pss_W hs) (hi σ H E _ fun J H1 s1 hJ => by
    refine ⟨fun i m σ' H' => i ≤ ds.length ∧ m = ds.length - i ∧ Same H1 H' ∧ ∃ ρ', I i ρ' ∧ EnvD X.K H' σ' ρ', ⟨ds.length, Nat.zero_le _, rfl, Same.refl _, ρ, h0, E.mono s1⟩, fun i m σ' H' hW => ?_⟩
    obtain ⟨hi1, rfl, sH, ρ', hI, E'⟩ := hW
    obtain ⟨jg, js⟩ := hJ i H' sH
    by_cases hlt : i < ds.length
    · have hd : ds[i]? = some ds[i] := List.getElem?_eq_getElem hlt
      generalize ds[i] = d at hd
      have hm : d ∈ ds := List.mem_of_getElem? hd
      obtain ⟨go, yld⟩ := jg d hd
      refine .inr ⟨go, fun σ2 H2 => Same H1 H2 ∧ ∃ ρ', I (i + 1) ρ' ∧ EnvD X.K H2 σ2 ρ', fun σ2 H2 ⟨a1, a2⟩ => ⟨ds.length - (i + 1), by omega, hlt, rfl, a1, a2⟩, fun x H2 y => ?_⟩
      obtain ⟨s2, dx⟩ := yld x H2 y
      refine gd d hm x _ H2 _ dx (E'.mono s2) _ fun σ2 E3 _ => ?_
      exact hb i d ρ' hd hI σ2 H2 _ E3 (fun ρ2 σ3 H3 z s3 E4 => ⟨sH.trans (s2.trans s3), ρ2, z, E4⟩) fun d v H3 z s3 => r d v H3 z (s1.trans (sH.trans (s2.trans s3)))
    · have e : i = ds.length := by omega
      subst e
      exact .inl ⟨js (Nat.le_refl _), he ρ' hI σ' H' D E' (fun ρ2 σ2 H2 z s2 => n ρ2 σ2 H2 z (s1.trans (sH.trans s2))) fun d v H2 z s2 => r d v H2 z (s1.trans (sH.trans s2))⟩))
/-- while -/
theorem psd_while {c0 : Expr} (c : DCtx X N sc k) (I : Nat → Rho → Prop) (m0 : Nat) (h0 : I m0 ρ)
    (hb : ∀ m ρ', I m ρ' → ∃ t, PDT X c0 ρ' t ∧ (t = true → PSD X body ρ' (fun ρ2 => ∃ m', m' < m ∧ I m' ρ2) R) ∧ (t = false → PSD X rest ρ' Nx R)) : PSD X (.While c0 body [] pos :: rest) ρ Nx R := fun σ H D E n r =>
  ws_cons (ws_of (ps_while c.never pt_W pss_W) (by
    refine ⟨fun m σ' H' => Same H H' ∧ ∃ ρ', I m ρ' ∧ EnvD X.K H' σ' ρ', ⟨m0, Same.refl _, ρ, h0, E⟩, fun m σ' H' hW => ?_⟩
    obtain ⟨sH, ρ', hI, E'⟩ := hW
    obtain ⟨t, hc, h1, h2⟩ := hb m ρ' hI
    refine hc σ' H' E' _ fun H1 s1 => ?_
    cases t with
    | true =>
      rw [if_pos rfl]
      refine ⟨fun σ2 H2 => ∃ m', m' < m ∧ Same H H2 ∧ ∃ ρ2, I m' ρ2 ∧ EnvD X.K H2 σ2 ρ2, fun σ2 H2 ⟨m', a1, a2⟩ => ⟨m', a1, a2⟩, ?_⟩
      exact h1 rfl σ' H1 _ (E'.mono s1) (fun ρ2 σ3 H3 ⟨m', lt, z⟩ s3 E4 => ⟨m', lt, sH.trans (s1.trans s3), ρ2, z, E4⟩) fun d v H3 z s3 => r d v H3 z (sH.trans (s1.trans s3))
    | false =>
      rw [if_neg (by decide)]
      exact h2 rfl σ' H1 D (E'.mono s1) (fun ρ2 σ2 H2 z s2 => n ρ2 σ2 H2 z (sH.trans (s1.trans s2))) fun d v H2 z s2 => r d v H2 z (sH.trans (s1.trans s2))))
/-- x = [..] (a comprehension), x a name of the def alone -/
theorem psd_setLc {x : Str} {scope : Scope} {tg iter elt : Expr} {ifs : List Expr} {py cpos : Pos} {g : TG} (c : DCtx X N sc k) (i : Nat) (own : List (Str × Nat)) (F : PyData → Rho → Rho) (keep : PyData → Bool) (v : PyData → PyData)
    (ok : blkC N sc scope own = true) (hsw : swapsWith (.ListComp elt [⟨tg, iter, ifs, 0⟩] scope cpos) (some (.Name x py)) pos.line X.env = pure true) (hi : PDI X tg iter ρ ds) (hn : ds.length ≤ 100000) (tu : ∀ d ∈ ds, keep d = true → tupd (v d) = true)
    (hg : ∀ X', InBlk X scope X' → Ctx X' N (relS scope sc) k → PG X' tg g) (gd : ∀ d ∈ ds, GD X.K g d (F d) (own.map (·.2)))
    (ht : ∀ X', InBlk X scope X' → Ctx X' N (relS scope sc) k → ∀ d ∈ ds, PDTs X' ifs (F d (wipeD ρ (own.map (·.2)))) (keep d)) (he : ∀ X', InBlk X scope X' → Ctx X' N (relS scope sc) k → ∀ d ∈ ds, keep d = true → PD X' elt (F d (wipeD ρ (own.map (·.2)))) (v d))
    (hk : PSD X rest (ρ.set i (some (.list ((ds.filter keep).map v)))) Nx R) (hN : N[i]? = some x := by rfl) (hx : sc.names.lookup x = some .local := by rfl) (hs : ∀ x, foldedSetIterable iter X.env x = pure x := by intro _; rfl) :
    PSD X (.Assign [.Name x py] (.ListComp elt [⟨tg, iter, ifs, 0⟩] scope cpos) pos :: rest) ρ Nx R := fun σ H D E n r => by
  have okB : BlkOk X.N X.env.scope scope own := by
    rw [c.hN, c.hs]
    exact blkOk_by ok
  refine ws_cons (ws_of (ps_setLc (i := i) c.calm c.nd' (by rw [c.hN]; exact hN) (c.lc hx) hsw pi_W okB (fun s H C cl fp => hg _ ⟨s, H, C, cl, fp, rfl⟩ (InBlk.ctx c.toCtx ⟨s, H, C, cl, fp, rfl⟩)) (fun s H C cl fp => pts_WB ⟨s, H, C, cl, fp, rfl⟩) (fun s H C cl fp => pe_WB ⟨s, H, C, cl, fp, rfl⟩) hs) ?_)
  exact (ed_lc F keep v hi hn tu gd (fun X' h => ht X' h (h.ctx c.toCtx)) (fun X' h => he X' h (h.ctx c.toCtx))) σ H E _ fun w H1 s1 hv =>
    hk _ H1 D ((E.mono s1).set hv i) (fun ρ' σ' H' h s => n ρ' σ' H' h (s1.trans s)) fun d v H' h s => r d v H' h (s1.trans s)
end

/-! ### a name as a target -/
theorem pg_of {X : Cx} {N : List Str} {sc : Scope} {k : Nat} {x : Str} {pos : Pos} (c : DCtx X N sc k) (i : Nat) (hN : N[i]? = some x := by rfl) (hx : Loc sc x := by first | exact Or.inl rfl | exact Or.inr rfl) : PG X (.Name x pos) (gName i) :=
  pg_name c.nd' (by rw [c.hN]; exact hN) (c.loc hx) (.inl (c.fn x))
theorem pg_blk {X : Cx} {N : List Str} {sc : Scope} {k : Nat} {x : Str} {pos : Pos} (c : Ctx X N sc k) (i : Nat) (hN : N[i]? = some x := by rfl) (hx : sc.names.lookup x = some .local := by rfl) : PG X (.Name x pos) (gName i) :=
  pg_name c.nd' (by rw [c.hN]; exact hN) (.inl (c.lc hx)) (.inr (c.lc hx))

/-! ### a def -/
/-- the def x of the text stands behind the top -/
def At (K : PySem.W.Frag) (mg : Str → Option Value) (x : Str) (st : Stmt) : Prop := ∃ f fd, FunD K x x (defArgs st) (defBody st) (defScope st) [] [] f fd ∧ mg x = some (.ref f)
theorem fnScope_nd {N ps : List Str} {sc : Scope} (S : FnScope N ps sc) : N.Nodup := S.nd
section
variable {P : Program} {w : World} {K : PySem.W.Frag} {mg : Str → Option Value} {base : Heap} {x : Str} {st : Stmt} {N ps : List Str} {k : Nat}
theorem def_raw {sp : Sp} (A : At K mg x st) (S : FnScope N ps (defScope st)) (hl : ∀ vs H Q E, sp vs H Q E → vs.length = ps.length)
    (hbi : ∀ (kV doc pm : Value) (an : Option Addr) (cdv ct : Value) (us : List Value), us.length = ps.length → bindArgs (PySem.W.fnOf x x (defArgs st) (defBody st) (defScope st) .none kV doc pm an cdv ct) ⟨us, []⟩ = pure (ps.zip us))
    (hb : ∀ X : Cx, X.prog = P → X.w = w → X.K = K → X.mg = mg → X.base = base → DCtx X N (defScope st) k → (∃ q n f cd, X.env = envOfC q (defScope st) n f cd) → ∀ vs H Q E, sp vs H Q E → WSs X (defBody st) { nx := fun _ H' => Q .non H', rt := Q } (start N vs) H) :
    Kn P w K mg base x ps sp (k + 1) := by
  obtain ⟨f, fd, F, hm⟩ := A
  refine ⟨f, fd, F.ok S hl fun cdv A outer s H vs Q E hr hsp => ⟨_, PSs.nox pss_W, ?_⟩, hm, F.kp, F.bindsN hbi⟩
  exact hb _ rfl rfl rfl rfl rfl ⟨⟨rfl, rfl, rfl, hr, S.nd⟩, fun _ => rfl, PassesOwn.never, S.kind⟩ ⟨_, _, _, _, rfl⟩ vs H Q E hsp
theorem def_ok {Pre : List PyData → PyData → Prop} (A : At K mg x st) (S : FnScope N ps (defScope st)) (hl : ∀ ds d, Pre ds d → ds.length = ps.length)
    (hbi : ∀ (kV doc pm : Value) (an : Option Addr) (cdv ct : Value) (us : List Value), us.length = ps.length → bindArgs (PySem.W.fnOf x x (defArgs st) (defBody st) (defScope st) .none kV doc pm an cdv ct) ⟨us, []⟩ = pure (ps.zip us))
    (hb : ∀ X : Cx, X.prog = P → X.w = w → X.K = K → X.mg = mg → X.base = base → DCtx X N (defScope st) k → (∃ q n f cd, X.env = envOfC q (defScope st) n f cd) → ∀ ds d, Pre ds d → PSD X (defBody st) (startD N ds) (fun _ => False) (fun r => r = d)) :
    Kn P w K mg base x ps (spP K Pre) (k + 1) := by
  refine def_raw A S (fun vs H Q E h => ?_) hbi fun X h1 h2 h3 h4 h5 c he vs H Q E h => ?_
  · obtain ⟨ds, d, hp, hv, _⟩ := h
    rw [hv.len]
    exact hl ds d hp
  · obtain ⟨ds, d, hp, hv, q⟩ := h
    subst h3
    exact hb X h1 h2 rfl h4 h5 c he ds d hp _ H _ (EnvD.start hv) (fun _ _ _ z => z.elim) fun d' v H' e s hd => q v H' s (e ▸ hd)
end
end SC

set_option maxHeartbeats 4000000
/-! the text's defs -/
namespace SC
open PySem PySem.Spec PyProof.Rows L2 RZ
def topS (i : Nat) : Stmt := PySem.Challenge.pw_sidecut_k15_whole_paths_put_otherwise.main.body.getD i (.Pass ⟨0, 0, 0, 0⟩)
abbrev s2 : Stmt := topS 2
theorem sc2 : FnScope ["thing"] ["thing"] (defScope s2) := ⟨rfl, rfl, rfl, by decide +kernel, rfl, by decide +kernel, by decide +kernel⟩ -- is_number
abbrev s3 : Stmt := topS 3
theorem sc3 : FnScope ["one", "other"] ["one", "other"] (defScope s3) := ⟨rfl, rfl, rfl, by decide +kernel, rfl, by decide +kernel, by decide +kernel⟩ -- divisor_of
abbrev s4 : Stmt := topS 4
theorem sc4 : FnScope ["thing"] ["thing"] (defScope s4) := ⟨rfl, rfl, rfl, by decide +kernel, rfl, by decide +kernel, by decide +kernel⟩ -- is_fraction
abbrev s5 : Stmt := topS 5
theorem sc5 : FnScope ["n", "d", "divisor"] ["n", "d"] (defScope s5) := ⟨rfl, rfl, rfl, by decide +kernel, rfl, by decide +kernel, by decide +kernel⟩ -- fraction
abbrev s6 : Stmt := topS 6
theorem sc6 : FnScope ["one", "other"] ["one", "other"] (defScope s6) := ⟨rfl, rfl, rfl, by decide +kernel, rfl, by decide +kernel, by decide +kernel⟩ -- added
abbrev s7 : Stmt := topS 7
theorem sc7 : FnScope ["one", "other"] ["one", "other"] (defScope s7) := ⟨rfl, rfl, rfl, by decide +kernel, rfl, by decide +kernel, by decide +kernel⟩ -- taken
abbrev s8 : Stmt := topS 8
theorem sc8 : FnScope ["one", "other"] ["one", "other"] (defScope s8) := ⟨rfl, rfl, rfl, by decide +kernel, rfl, by decide +kernel, by decide +kernel⟩ -- times
abbrev s9 : Stmt := topS 9
theorem sc9 : FnScope ["one", "other"] ["one", "other"] (defScope s9) := ⟨rfl, rfl, rfl, by decide +kernel, rfl, by decide +kernel, by decide +kernel⟩ -- over
abbrev s10 : Stmt := topS 10
theorem sc10 : FnScope ["one", "other", "left", "right"] ["one", "other"] (defScope s10) := ⟨rfl, rfl, rfl, by decide +kernel, rfl, by decide +kernel, by decide +kernel⟩ -- compared
abbrev s11 : Stmt := topS 11
theorem sc11 : FnScope ["number", "low", "high", "middle"] ["number"] (defScope s11) := ⟨rfl, rfl, rfl, by decide +kernel, rfl, by decide +kernel, by decide +kernel⟩ -- whole_root
abbrev s12 : Stmt := topS 12
theorem sc12 : FnScope ["one", "top", "bottom"] ["one"] (defScope s12) := ⟨rfl, rfl, rfl, by decide +kernel, rfl, by decide +kernel, by decide +kernel⟩ -- root_of
abbrev s14 : Stmt := topS 14
theorem sc14 : FnScope ["one", "other"] ["one", "other"] (defScope s14) := ⟨rfl, rfl, rfl, by decide +kernel, rfl, by decide +kernel, by decide +kernel⟩ -- plus
abbrev s15 : Stmt := topS 15
theorem sc15 : FnScope ["one", "other"] ["one", "other"] (defScope s15) := ⟨rfl, rfl, rfl, by decide +kernel, rfl, by decide +kernel, by decide +kernel⟩ -- minus
abbrev s16 : Stmt := topS 16
theorem sc16 : FnScope ["one", "other"] ["one", "other"] (defScope s16) := ⟨rfl, rfl, rfl, by decide +kernel, rfl, by decide +kernel, by decide +kernel⟩ -- dot
abbrev s17 : Stmt := topS 17
theorem sc17 : FnScope ["one", "other"] ["one", "other"] (defScope s17) := ⟨rfl, rfl, rfl, by decide +kernel, rfl, by decide +kernel, by decide +kernel⟩ -- cross
abbrev s18 : Stmt := topS 18
theorem sc18 : FnScope ["vector"] ["vector"] (defScope s18) := ⟨rfl, rfl, rfl, by decide +kernel, rfl, by decide +kernel, by decide +kernel⟩ -- left_of
abbrev s19 : Stmt := topS 19
theorem sc19 : FnScope ["vector"] ["vector"] (defScope s19) := ⟨rfl, rfl, rfl, by decide +kernel, rfl, by decide +kernel, by decide +kernel⟩ -- length_of
abbrev s20 : Stmt := topS 20
theorem sc20 : FnScope ["vector", "length"] ["vector"] (defScope s20) := ⟨rfl, rfl, rfl, by decide +kernel, rfl, by decide +kernel, by decide +kernel⟩ -- unit_of
abbrev s26 : Stmt := topS 26
theorem sc26 : FnScope ["thing", "part"] ["thing"] (defScope s26) := ⟨rfl, rfl, rfl, by decide +kernel, rfl, by decide +kernel, by decide +kernel⟩ -- is_point
abbrev s27 : Stmt := topS 27
theorem sc27 : FnScope ["vector"] ["vector"] (defScope s27) := ⟨rfl, rfl, rfl, by decide +kernel, rfl, by decide +kernel, by decide +kernel⟩ -- opposite
abbrev s28 : Stmt := topS 28
theorem sc28 : FnScope ["begin", "thing"] ["begin", "thing"] (defScope s28) := ⟨rfl, rfl, rfl, by decide +kernel, rfl, by decide +kernel, by decide +kernel⟩ -- is_side
abbrev s29 : Stmt := topS 29
theorem sc29 : FnScope ["begin", "thing", "radius"] ["begin", "thing"] (defScope s29) := ⟨rfl, rfl, rfl, by decide +kernel, rfl, by decide +kernel, by decide +kernel⟩ -- is_arc
abbrev s30 : Stmt := topS 30
theorem sc30 : FnScope ["begin", "thing"] ["begin", "thing"] (defScope s30) := ⟨rfl, rfl, rfl, by decide +kernel, rfl, by decide +kernel, by decide +kernel⟩ -- is_piece
abbrev s31 : Stmt := topS 31
theorem sc31 : FnScope ["piece"] ["piece"] (defScope s31) := ⟨rfl, rfl, rfl, by decide +kernel, rfl, by decide +kernel, by decide +kernel⟩ -- to_of
abbrev s32 : Stmt := topS 32
theorem sc32 : FnScope ["thing", "begin", "piece"] ["thing"] (defScope s32) := ⟨rfl, rfl, rfl, by decide +kernel, rfl, by decide +kernel, by decide +kernel⟩ -- is_path
abbrev s33 : Stmt := topS 33
theorem sc33 : FnScope ["path", "piece"] ["path"] (defScope s33) := ⟨rfl, rfl, rfl, by decide +kernel, rfl, by decide +kernel, by decide +kernel⟩ -- ends_of
abbrev s34 : Stmt := topS 34
theorem sc34 : FnScope ["path"] ["path"] (defScope s34) := ⟨rfl, rfl, rfl, by decide +kernel, rfl, by decide +kernel, by decide +kernel⟩ -- is_closed
abbrev s35 : Stmt := topS 35
theorem sc35 : FnScope ["path", "number"] ["path", "number"] (defScope s35) := ⟨rfl, rfl, rfl, by decide +kernel, rfl, by decide +kernel, by decide +kernel⟩ -- begin_of
abbrev s36 : Stmt := topS 36
theorem sc36 : FnScope ["path", "number", "piece"] ["path", "number"] (defScope s36) := ⟨rfl, rfl, rfl, by decide +kernel, rfl, by decide +kernel, by decide +kernel⟩ -- radius_of
abbrev s37 : Stmt := topS 37
theorem sc37 : FnScope ["piece", "point", "out"] ["piece", "point"] (defScope s37) := ⟨rfl, rfl, rfl, by decide +kernel, rfl, by decide +kernel, by decide +kernel⟩ -- heading_at
abbrev s38 : Stmt := topS 38
theorem sc38 : FnScope ["path", "number", "piece", "begin", "unit"] ["path", "number"] (defScope s38) := ⟨rfl, rfl, rfl, by decide +kernel, rfl, by decide +kernel, by decide +kernel⟩ -- headings
abbrev s39 : Stmt := topS 39
theorem sc39 : FnScope ["ahead", "behind", "way"] ["ahead", "behind"] (defScope s39) := ⟨rfl, rfl, rfl, by decide +kernel, rfl, by decide +kernel, by decide +kernel⟩ -- corner_word
abbrev s40 : Stmt := topS 40
theorem sc40 : FnScope ["path", "found", "number", "ahead"] ["path"] (defScope s40) := ⟨rfl, rfl, rfl, by decide +kernel, rfl, by decide +kernel, by decide +kernel⟩ -- corners
abbrev s41 : Stmt := topS 41
theorem sc41 : FnScope ["turn"] ["turn"] (defScope s41) := ⟨rfl, rfl, rfl, by decide +kernel, rfl, by decide +kernel, by decide +kernel⟩ -- other_turn
abbrev s42 : Stmt := topS 42
theorem sc42 : FnScope ["path", "ends", "pieces", "number", "piece"] ["path"] (defScope s42) := ⟨rfl, rfl, rfl, by decide +kernel, rfl, by decide +kernel, by decide +kernel⟩ -- turned_about
abbrev s43 : Stmt := topS 43
theorem sc43 : FnScope ["point"] ["point"] (defScope s43) := ⟨rfl, rfl, rfl, by decide +kernel, rfl, by decide +kernel, by decide +kernel⟩ -- mirrored_point
abbrev s44 : Stmt := topS 44
theorem sc44 : FnScope ["piece"] ["piece"] (defScope s44) := ⟨rfl, rfl, rfl, by decide +kernel, rfl, by decide +kernel, by decide +kernel⟩ -- mirrored_piece
abbrev s45 : Stmt := topS 45
theorem sc45 : FnScope ["path", "piece"] ["path"] (defScope s45) := ⟨rfl, rfl, rfl, by decide +kernel, rfl, by decide +kernel, by decide +kernel⟩ -- mirrored
abbrev s46 : Stmt := topS 46
theorem sc46 : FnScope ["piece", "vector"] ["piece", "vector"] (defScope s46) := ⟨rfl, rfl, rfl, by decide +kernel, rfl, by decide +kernel, by decide +kernel⟩ -- moved_piece
abbrev s47 : Stmt := topS 47
theorem sc47 : FnScope ["path", "vector", "piece"] ["path", "vector"] (defScope s47) := ⟨rfl, rfl, rfl, by decide +kernel, rfl, by decide +kernel, by decide +kernel⟩ -- moved
abbrev s49 : Stmt := topS 49
theorem sc49 : FnScope ["_law_script", "_law_k", "_law_cell"] ["_law_script", "_law_k"] (defScope s49) := ⟨rfl, rfl, rfl, by decide +kernel, rfl, by decide +kernel, by decide +kernel⟩ -- _law_box
abbrev s50 : Stmt := topS 50
theorem sc50 : FnScope ["_law_box_here", "_law_many", "_law_found", "_law_once"] ["_law_box_here", "_law_many"] (defScope s50) := ⟨rfl, rfl, rfl, by decide +kernel, rfl, by decide +kernel, by decide +kernel⟩ -- _law_take
abbrev s51 : Stmt := topS 51
theorem sc51 : FnScope ["_law_script", "_law_most", "_law_found", "_law_k", "_law_cell"] ["_law_script", "_law_most"] (defScope s51) := ⟨rfl, rfl, rfl, by decide +kernel, rfl, by decide +kernel, by decide +kernel⟩ -- _law_boxes
abbrev s52 : Stmt := topS 52
theorem sc52 : FnScope ["_law_top", "_law_bottom", "_law_one", "_law_other", "_law_by"] ["_law_top", "_law_bottom"] (defScope s52) := ⟨rfl, rfl, rfl, by decide +kernel, rfl, by decide +kernel, by decide +kernel⟩ -- _law_fr
abbrev s53 : Stmt := topS 53
theorem sc53 : FnScope ["_law_one", "_law_other", "_law_by"] ["_law_one", "_law_other", "_law_by"] (defScope s53) := ⟨rfl, rfl, rfl, by decide +kernel, rfl, by decide +kernel, by decide +kernel⟩ -- _law_add
abbrev s54 : Stmt := topS 54
theorem sc54 : FnScope ["_law_one", "_law_other"] ["_law_one", "_law_other"] (defScope s54) := ⟨rfl, rfl, rfl, by decide +kernel, rfl, by decide +kernel, by decide +kernel⟩ -- _law_mul
abbrev s55 : Stmt := topS 55
theorem sc55 : FnScope ["_law_point", "_law_vector", "_law_by"] ["_law_point", "_law_vector", "_law_by"] (defScope s55) := ⟨rfl, rfl, rfl, by decide +kernel, rfl, by decide +kernel, by decide +kernel⟩ -- _law_on
abbrev s56 : Stmt := topS 56
theorem sc56 : FnScope ["_law_one", "_law_other"] ["_law_one", "_law_other"] (defScope s56) := ⟨rfl, rfl, rfl, by decide +kernel, rfl, by decide +kernel, by decide +kernel⟩ -- _law_off
abbrev s57 : Stmt := topS 57
theorem sc57 : FnScope ["_law_one", "_law_other"] ["_law_one", "_law_other"] (defScope s57) := ⟨rfl, rfl, rfl, by decide +kernel, rfl, by decide +kernel, by decide +kernel⟩ -- _law_dot
abbrev s58 : Stmt := topS 58
theorem sc58 : FnScope ["_law_one", "_law_other"] ["_law_one", "_law_other"] (defScope s58) := ⟨rfl, rfl, rfl, by decide +kernel, rfl, by decide +kernel, by decide +kernel⟩ -- _law_cross
abbrev s59 : Stmt := topS 59
theorem sc59 : FnScope ["_law_vector"] ["_law_vector"] (defScope s59) := ⟨rfl, rfl, rfl, by decide +kernel, rfl, by decide +kernel, by decide +kernel⟩ -- _law_left
abbrev s60 : Stmt := topS 60
theorem sc60 : FnScope ["_law_box_here", "_law_h", "_law_three", "_law_some", "_law_x", "_law_y", "_law_by", "_law_turn"] ["_law_box_here", "_law_h"] (defScope s60) := ⟨rfl, rfl, rfl, by decide +kernel, rfl, by decide +kernel, by decide +kernel⟩ -- _law_unit
abbrev s61 : Stmt := topS 61
theorem sc61 : FnScope ["_law_box_here", "_law_h", "_law_begin", "_law_heading", "_law_tangent", "_law_turn", "_law_radius", "_law_out", "_law_middle", "_law_other"] ["_law_box_here", "_law_h", "_law_begin", "_law_heading", "_law_tangent"] (defScope s61) := ⟨rfl, rfl, rfl, by decide +kernel, rfl, by decide +kernel, by decide +kernel⟩ -- _law_arc
abbrev s62 : Stmt := topS 62
theorem sc62 : FnScope ["_law_box_here"] ["_law_box_here"] (defScope s62) := ⟨rfl, rfl, rfl, by decide +kernel, rfl, by decide +kernel, by decide +kernel⟩ -- _law_path
abbrev s63 : Stmt := topS 63
theorem sc63 : FnScope ["_law_box_here", "_law_h", "_law_great", "_law_closed", "_law_many", "_law_whole", "_law_start", "_law_pieces", "_law_here", "_law_heading", "_law_k", "_law_way", "_law_unit_here", "_law_middle", "_law_turn", "_law_out"] ["_law_box_here", "_law_h"] (defScope s63) := ⟨rfl, rfl, rfl, by decide +kernel, rfl, by decide +kernel, by decide +kernel⟩ -- _law_path_of
abbrev s64 : Stmt := topS 64
theorem sc64 : FnScope ["_law_piece"] ["_law_piece"] (defScope s64) := ⟨rfl, rfl, rfl, by decide +kernel, rfl, by decide +kernel, by decide +kernel⟩ -- _law_to
abbrev s65 : Stmt := topS 65
theorem sc65 : FnScope ["_law_path_here", "_law_piece"] ["_law_path_here"] (defScope s65) := ⟨rfl, rfl, rfl, by decide +kernel, rfl, by decide +kernel, by decide +kernel⟩ -- _law_begins
abbrev s66 : Stmt := topS 66
theorem sc66 : FnScope ["_law_vector"] ["_law_vector"] (defScope s66) := ⟨rfl, rfl, rfl, by decide +kernel, rfl, by decide +kernel, by decide +kernel⟩ -- _law_about
abbrev s67 : Stmt := topS 67
theorem sc67 : FnScope ["_law_path_here", "_law_begins_here", "_law_number", "_law_piece", "_law_units", "_law_radius", "_law_unit_here", "_law_point", "_law_ray"] ["_law_path_here"] (defScope s67) := ⟨rfl, rfl, rfl, by decide +kernel, rfl, by decide +kernel, by decide +kernel⟩ -- _law_units_right
abbrev s68 : Stmt := topS 68
theorem sc68 : FnScope ["_law_path_here", "_law_deed", "_law_by"] ["_law_path_here", "_law_deed", "_law_by"] (defScope s68) := ⟨rfl, rfl, rfl, by decide +kernel, rfl, by decide +kernel, by decide +kernel⟩ -- _law_done
abbrev s69 : Stmt := topS 69
theorem sc69 : FnScope ["_law_point", "_law_deed", "_law_by"] ["_law_point", "_law_deed", "_law_by"] (defScope s69) := ⟨rfl, rfl, rfl, by decide +kernel, rfl, by decide +kernel, by decide +kernel⟩ -- _law_point_done
abbrev s70 : Stmt := topS 70
theorem sc70 : FnScope ["_law_path_here", "_law_number", "_law_word"] ["_law_path_here"] (defScope s70) := ⟨rfl, rfl, rfl, by decide +kernel, rfl, by decide +kernel, by decide +kernel⟩ -- _law_words
abbrev s71 : Stmt := topS 71
theorem sc71 : FnScope ["_law_path_here", "_law_found", "_law_deed", "_law_by", "_law_ends", "_law_radii", "_law_words_here", "_law_point", "_law_number", "_law_word"] ["_law_path_here", "_law_found", "_law_deed", "_law_by"] (defScope s71) := ⟨rfl, rfl, rfl, by decide +kernel, rfl, by decide +kernel, by decide +kernel⟩ -- _law_deed_right
abbrev s72 : Stmt := topS 72
theorem sc72 : FnScope ["_law_box_here", "_law_path_here", "_law_at", "_law_many", "_law_first", "_law_second", "_law_due", "_law_ahead", "_law_behind", "_law_way", "_law_word", "_law_row", "_law_number", "_law_one"] ["_law_box_here", "_law_path_here"] (defScope s72) := ⟨rfl, rfl, rfl, by decide +kernel, rfl, by decide +kernel, by decide +kernel⟩ -- _law_parts_right
abbrev s73 : Stmt := topS 73
theorem sc73 : FnScope ["_law_script", "_law_box_here", "_law_path_here", "_law_by", "_law_deeds", "_law_here", "_law_deed", "_law_found", "_law_back", "_law_k"] ["_law_script"] (defScope s73) := ⟨rfl, rfl, rfl, by decide +kernel, rfl, by decide +kernel, by decide +kernel⟩ -- law
/-- names of built-ins that the text leaves alone -/
structure Fr (mg : Str → Option Value) : Prop where
  b_isinstance : mg "isinstance" = none
  b_int : mg "int" = none
  b_bool : mg "bool" = none
  b_tuple : mg "tuple" = none
  b_str : mg "str" = none
  b_len : mg "len" = none
  b_all : mg "all" = none
  b_any : mg "any" = none
  b_abs : mg "abs" = none
  b_range : mg "range" = none
  b_enumerate : mg "enumerate" = none
  b_zip : mg "zip" = none
  b_list : mg "list" = none
  b_max : mg "max" = none
  b_sorted : mg "sorted" = none
  b_divmod : mg "divmod" = none
end SC

set_option maxHeartbeats 4000000
/-! equal data; tests whose answer is known; texts sorted -/
namespace SC
open PySem PySem.Spec PyProof.Rows L2 RZ
/-! ### equal data -/
mutual
def pl : PyData → Bool
  | .none | .int _ | .str _ => true
  | .bool _ | .dict _ => false
  | .list ds | .tuple ds => plA ds
def plA : List PyData → Bool
  | [] => true
  | d :: ds => pl d && plA ds
end
theorem plA_all {ds : List PyData} : plA ds = true ↔ ∀ d ∈ ds, pl d = true := by
  induction ds with
  | nil => simp [plA]
  | cons d ds ih => simp [plA, ih]
mutual
theorem eqv_eq : ∀ (d e : PyData), pl d = true → pl e = true → PyData.eqv d e = true → d = e
  | .none, e, _, h2, h => by cases e <;> simp_all [PyData.eqv, pl]
  | .bool _, _, h1, _, _ => by simp [pl] at h1
  | .dict _, _, h1, _, _ => by simp [pl] at h1
  | .int i, e, _, h2, h => by cases e <;> simp_all [PyData.eqv, pl]
  | .str x, e, _, h2, h => by cases e <;> simp_all [PyData.eqv, pl]
  | .list ds, e, h1, h2, h => by
    cases e with
    | list es =>
      simp only [pl] at h1 h2
      simp only [PyData.eqv] at h
      rw [eqvA_eq ds es h1 h2 h]
    | _ => simp_all [PyData.eqv, pl]
  | .tuple ds, e, h1, h2, h => by
    cases e with
    | tuple es =>
      simp only [pl] at h1 h2
      simp only [PyData.eqv] at h
      rw [eqvA_eq ds es h1 h2 h]
    | _ => simp_all [PyData.eqv, pl]
theorem eqvA_eq : ∀ (ds es : List PyData), plA ds = true → plA es = true → PyData.eqvAll ds es = true → ds = es
  | [], es, _, _, h => by cases es <;> simp_all [PyData.eqvAll]
  | d :: ds, [], _, _, h => by simp [PyData.eqvAll] at h
  | d :: ds, e :: es, h1, h2, h => by
    simp only [plA, Bool.and_eq_true] at h1 h2
    simp only [PyData.eqvAll, Bool.and_eq_true] at h
    rw [eqv_eq d e h1.1 h2.1 h.1, eqvA_eq ds es h1.2 h2.2 h.2]
end
mutual
theorem eqv_rf : ∀ d : PyData, pl d = true → PyData.eqv d d = true
  | .none, _ => by simp [PyData.eqv]
  | .bool _, h => by simp [pl] at h
  | .dict _, h => by simp [pl] at h
  | .int i, _ => by simp [PyData.eqv]
  | .str x, _ => by simp [PyData.eqv]
  | .list ds, h => by simp only [PyData.eqv]; exact eqvA_rf ds (by simpa [pl] using h)
  | .tuple ds, h => by simp only [PyData.eqv]; exact eqvA_rf ds (by simpa [pl] using h)
theorem eqvA_rf : ∀ ds : List PyData, plA ds = true → PyData.eqvAll ds ds = true
  | [], _ => by simp [PyData.eqvAll]
  | d :: ds, h => by
    simp only [plA, Bool.and_eq_true] at h
    simp only [PyData.eqvAll, Bool.and_eq_true]
    exact ⟨eqv_rf d h.1, eqvA_rf ds h.2⟩
end
theorem eqv_ne {d e : PyData} (h1 : pl d = true) (h2 : pl e = true) (h : d ≠ e) : PyData.eqv d e = false := by
  cases q : PyData.eqv d e with
  | false => rfl
  | true => exact absurd (eqv_eq d e h1 h2 q) h
/-! shapes: depth -/
theorem dep_all {n : Nat} {ds : List PyData} (h : ∀ d ∈ ds, PyData.depth d ≤ n) : PyData.depthAll ds ≤ n := by
  induction ds with
  | nil => simp [PyData.depthAll]
  | cons d ds ih =>
    simp only [PyData.depthAll]
    exact Nat.max_le.mpr ⟨h d List.mem_cons_self, ih fun e he => h e (List.mem_cons_of_mem _ he)⟩
theorem lay_all {ds : List PyData} (h : ∀ d ∈ ds, PyData.canLay0 d = true) : PyData.canLayAll0 ds = true := by
  induction ds with
  | nil => simp [PyData.canLayAll0]
  | cons d ds ih =>
    simp only [PyData.canLayAll0, Bool.and_eq_true]
    exact ⟨h d List.mem_cons_self, ih fun e he => h e (List.mem_cons_of_mem _ he)⟩
/-- laid out in at most n storeys -/
def Sh (n : Nat) (d : PyData) : Prop := PyData.canLay0 d = true ∧ PyData.depth d ≤ n
theorem Sh.ok {n : Nat} {d : PyData} (h : Sh n d) (hn : n ≤ 64) : SeqAt.shaped d = true := by
  unfold SeqAt.shaped
  rw [h.1, Bool.true_and]
  exact decide_eq_true (Nat.le_trans h.2 hn)
theorem Sh.tuple {n : Nat} {ds : List PyData} (h : ∀ d ∈ ds, Sh n d) : Sh (n + 1) (.tuple ds) := by
  refine ⟨?_, ?_⟩
  · simp only [PyData.canLay0]
    exact lay_all fun d hd => (h d hd).1
  · simp only [PyData.depth]
    exact Nat.succ_le_succ (dep_all fun d hd => (h d hd).2)
theorem Sh.list {n : Nat} {ds : List PyData} (h : ∀ d ∈ ds, Sh n d) : Sh (n + 1) (.list ds) := by
  refine ⟨?_, ?_⟩
  · simp only [PyData.canLay0]
    exact lay_all fun d hd => (h d hd).1
  · simp only [PyData.depth]
    exact Nat.succ_le_succ (dep_all fun d hd => (h d hd).2)
theorem Sh.mono {m n : Nat} {d : PyData} (h : Sh m d) (k : m ≤ n) : Sh n d := ⟨h.1, Nat.le_trans h.2 k⟩
theorem Sh.int {n : Nat} {i : Int} : Sh n (.int i) := ⟨by simp [PyData.canLay0], by simp [PyData.depth]⟩
theorem Sh.none {n : Nat} : Sh n .none := ⟨by simp [PyData.canLay0], by simp [PyData.depth]⟩
theorem Sh.bool {n : Nat} {b : Bool} : Sh n (.bool b) := ⟨by simp [PyData.canLay0], by simp [PyData.depth]⟩

/-! ### known answers -/
section
variable {X : Cx} {N : List Str} {sc : Scope} {k : Nat} {ρ : Rho} {d d1 d2 : PyData} {e a b : Expr} {rest : List Expr} {pos : Pos} {t u : Bool}
theorem pdt_eqT (c : Ctx X N sc k) (ha : PD X a ρ d1) (hb : PD X b ρ d2) (he : PyData.eqv d1 d2 = true := by rfl) (s1 : SeqAt.shaped d1 = true := by rfl) (s2 : SeqAt.shaped d2 = true := by rfl) : PDT X (.Compare a [.Eq] [b] pos) ρ true := pdt_eq c ha hb he s1 s2
theorem pdt_eqF (c : Ctx X N sc k) (ha : PD X a ρ d1) (hb : PD X b ρ d2) (he : PyData.eqv d1 d2 = false := by rfl) (s1 : SeqAt.shaped d1 = true := by rfl) (s2 : SeqAt.shaped d2 = true := by rfl) : PDT X (.Compare a [.Eq] [b] pos) ρ false := pdt_eq c ha hb he s1 s2
theorem pdt_neF (c : Ctx X N sc k) (ha : PD X a ρ d1) (hb : PD X b ρ d2) (he : PyData.eqv d1 d2 = true := by rfl) (s1 : SeqAt.shaped d1 = true := by rfl) (s2 : SeqAt.shaped d2 = true := by rfl) : PDT X (.Compare a [.NotEq] [b] pos) ρ false := pdt_ne c ha hb he s1 s2
theorem pdt_neT (c : Ctx X N sc k) (ha : PD X a ρ d1) (hb : PD X b ρ d2) (he : PyData.eqv d1 d2 = false := by rfl) (s1 : SeqAt.shaped d1 = true := by rfl) (s2 : SeqAt.shaped d2 = true := by rfl) : PDT X (.Compare a [.NotEq] [b] pos) ρ true := pdt_ne c ha hb he s1 s2
theorem pd_eqT (c : Ctx X N sc k) (ha : PD X a ρ d1) (hb : PD X b ρ d2) (he : PyData.eqv d1 d2 = true := by rfl) (s1 : SeqAt.shaped d1 = true := by rfl) (s2 : SeqAt.shaped d2 = true := by rfl) : PD X (.Compare a [.Eq] [b] pos) ρ (.bool true) := pd_eq c ha hb he s1 s2
theorem pd_eqF (c : Ctx X N sc k) (ha : PD X a ρ d1) (hb : PD X b ρ d2) (he : PyData.eqv d1 d2 = false := by rfl) (s1 : SeqAt.shaped d1 = true := by rfl) (s2 : SeqAt.shaped d2 = true := by rfl) : PD X (.Compare a [.Eq] [b] pos) ρ (.bool false) := pd_eq c ha hb he s1 s2
theorem pd_neF (c : Ctx X N sc k) (ha : PD X a ρ d1) (hb : PD X b ρ d2) (he : PyData.eqv d1 d2 = true := by rfl) (s1 : SeqAt.shaped d1 = true := by rfl) (s2 : SeqAt.shaped d2 = true := by rfl) : PD X (.Compare a [.NotEq] [b] pos) ρ (.bool false) := pd_ne c ha hb he s1 s2
theorem pd_neT (c : Ctx X N sc k) (ha : PD X a ρ d1) (hb : PD X b ρ d2) (he : PyData.eqv d1 d2 = false := by rfl) (s1 : SeqAt.shaped d1 = true := by rfl) (s2 : SeqAt.shaped d2 = true := by rfl) : PD X (.Compare a [.NotEq] [b] pos) ρ (.bool true) := pd_ne c ha hb he s1 s2
theorem pdt_isNF (ha : PD X a ρ d) (hb : PD X b ρ .none) (h : isNon d = false := by rfl) : PDT X (.Compare a [.Is] [b] pos) ρ false := h ▸ pdt_isN ha hb
theorem pdt_isNT (ha : PD X a ρ d) (hb : PD X b ρ .none) (h : isNon d = true := by rfl) : PDT X (.Compare a [.Is] [b] pos) ρ true := h ▸ pdt_isN ha hb
theorem pdt_notNT (ha : PD X a ρ d) (hb : PD X b ρ .none) (h : isNon d = false := by rfl) : PDT X (.Compare a [.IsNot] [b] pos) ρ true := PDT.eq (pdt_notN ha hb) (by rw [h]; rfl)
theorem pdt_notNF (ha : PD X a ρ d) (hb : PD X b ρ .none) (h : isNon d = true := by rfl) : PDT X (.Compare a [.IsNot] [b] pos) ρ false := PDT.eq (pdt_notN ha hb) (by rw [h]; rfl)
theorem pd_notNT (ha : PD X a ρ d) (hb : PD X b ρ .none) (h : isNon d = false := by rfl) : PD X (.Compare a [.IsNot] [b] pos) ρ (.bool true) := PD.eq (pd_notN ha hb) (by rw [h]; rfl)
theorem pw_orF (ha : PDT X a ρ false) (hb : PDW X (.BoolOp .Or (b :: rest) pos) ρ u) : PDW X (.BoolOp .Or (a :: b :: rest) pos) ρ u := pdw_or ha fun _ => hb
theorem pw_orT (ha : PDT X a ρ true) : PDW X (.BoolOp .Or (a :: b :: rest) pos) ρ true := pdw_or (u := true) ha fun h => by cases h
theorem pw_andT (ha : PDT X a ρ true) (hb : PDW X (.BoolOp .And (b :: rest) pos) ρ u) : PDW X (.BoolOp .And (a :: b :: rest) pos) ρ u := pdw_and ha fun _ => hb
theorem pw_andF (ha : PDT X a ρ false) : PDW X (.BoolOp .And (a :: b :: rest) pos) ρ false := pdw_and (u := true) ha fun h => by cases h
theorem pt_nT (h : PDT X a ρ true) : PDT X (.UnaryOp .Not a pos) ρ false := pdt_not h
theorem pt_nF (h : PDT X a ρ false) : PDT X (.UnaryOp .Not a pos) ρ true := pdt_not h
theorem pd_andT (ha : PD X a ρ (.bool true)) (hb : PD X (.BoolOp .And (b :: rest) pos) ρ (.bool u)) : PD X (.BoolOp .And (a :: b :: rest) pos) ρ (.bool u) := pd_and ha fun _ => hb
theorem pd_andF (ha : PD X a ρ (.bool false)) : PD X (.BoolOp .And (a :: b :: rest) pos) ρ (.bool false) := pd_and (u := true) ha fun h => by cases h
theorem pd_orF (ha : PD X a ρ (.bool false)) (hb : PD X (.BoolOp .Or (b :: rest) pos) ρ (.bool u)) : PD X (.BoolOp .Or (a :: b :: rest) pos) ρ (.bool u) := pd_or ha fun _ => hb
theorem pd_orT (ha : PD X a ρ (.bool true)) : PD X (.BoolOp .Or (a :: b :: rest) pos) ρ (.bool true) := pd_or (u := true) ha fun h => by cases h
theorem pd_ifT {c : Expr} (hc : PDT X c ρ true) (h : PD X a ρ d) : PD X (.IfExp c a b pos) ρ d := pd_if hc (fun _ => h) fun z => by cases z
theorem pd_ifF {c : Expr} (hc : PDT X c ρ false) (h : PD X b ρ d) : PD X (.IfExp c a b pos) ρ d := pd_if hc (fun z => by cases z) fun _ => h
theorem psd_ifT {c : Expr} {body els rs : List Stmt} {Nx : Rho → Prop} {R : PyData → Prop} (hc : PDT X c ρ true) (h : PSD X body ρ (fun ρ' => PSD X rs ρ' Nx R) R) : PSD X (.If c body els pos :: rs) ρ Nx R := psd_if hc (fun _ => h) fun z => by cases z
theorem psd_ifF {c : Expr} {body els rs : List Stmt} {Nx : Rho → Prop} {R : PyData → Prop} (hc : PDT X c ρ false) (h : PSD X els ρ (fun ρ' => PSD X rs ρ' Nx R) R) : PSD X (.If c body els pos :: rs) ρ Nx R := psd_if hc (fun z => by cases z) fun _ => h
/-- an if without else, not taken -/
theorem psd_skip {c : Expr} {body rs : List Stmt} {Nx : Rho → Prop} {R : PyData → Prop} (hc : PDT X c ρ false) (h : PSD X rs ρ Nx R) : PSD X (.If c body [] pos :: rs) ρ Nx R := psd_ifF hc (psd_nil h)
end
end SC

set_option maxHeartbeats 4000000
/-! a loop that builds a list by append -/
namespace SC
open PySem PySem.Spec PyProof.Rows L2 RZ
/-- what is walked without looking at the heap: ints -/
def ItA (J : It) (ds : List Int) : Prop := ∀ (i : Nat) H, (∀ d, ds[i]? = some d → J.go i H ∧ ∀ x H', J.yld i H x H' → H' = H ∧ x = .int d) ∧ (ds.length ≤ i → J.stop i H)
abbrev PDA' (X : Cx) (tg iter : Expr) (ρ : Rho) (ds : List Int) : Prop := ∀ σ H, EnvD X.K H σ ρ → ∀ R : It → Hp → Prop, (∀ J H1, Same H H1 → ItA J ds → R J H1) → WI X tg iter σ H R
section
variable {X : Cx} {N : List Str} {sc : Scope} {k : Nat} {ρ : Rho} {e tg : Expr} {p pos : Pos} {i j : Int}
theorem ita_range {n : Nat} : ItA (Itr 0 n) ((List.range n).map fun i => ((i : Nat) : Int)) := fun i H => by
  refine ⟨fun d e => ?_, fun hl => by simp at hl; exact hl⟩
  rw [List.getElem?_map] at e
  by_cases hi : i < n
  · rw [List.getElem?_range hi] at e
    cases e
    refine ⟨hi, fun x H2 y => ?_⟩
    obtain ⟨rfl, rfl⟩ := y
    exact ⟨rfl, by rw [Int.zero_add]⟩
  · rw [List.getElem?_eq_none (by simpa using hi)] at e
    cases e
theorem ita_down {lo : Int} {n : Nat} : ItA (Itc lo (-1) n) ((List.range n).map fun i => lo - ((i : Nat) : Int)) := fun i H => by
  refine ⟨fun d e => ?_, fun hl => by simp at hl; exact hl⟩
  rw [List.getElem?_map] at e
  by_cases hi : i < n
  · rw [List.getElem?_range hi] at e
    cases e
    refine ⟨hi, fun x H2 y => ?_⟩
    obtain ⟨rfl, rfl⟩ := y
    refine ⟨rfl, ?_⟩
    show V.int (lo + (i : Int) * -1) = V.int (lo - (i : Int))
    rw [show lo + (i : Int) * -1 = lo - (i : Int) by omega]
  · rw [List.getElem?_eq_none (by simpa using hi)] at e
    cases e
theorem pda_range {n : Nat} (c : Ctx X N sc k) (fr : X.mg "range" = none) (ha : PD X e ρ (.int (n : Int))) (h0 : n ≤ 100000) (hg : sc.names.lookup ("range" : Str) = some .globalImplicit := by rfl) (ns : NoStar e := by exact fun _ _ => rfl) :
    PDA' X tg (.Call (.Name "range" p) [e] [] pos) ρ ((List.range n).map fun i => ((i : Nat) : Int)) := fun σ H E R q =>
  ⟨_, pi_range1 (c.gl hg) fr (pa_cons pe_W pa_nil (ns _ _)) (ns _ _), ha σ H E _ fun v H1 s1 hv => by
    cases hv
    refine ⟨n, rfl, by omega, by omega, ?_⟩
    rw [Int.toNat_natCast]
    exact q _ H1 s1 ita_range⟩
theorem pda_down {a b c3 : Expr} {n : Nat} (c : Ctx X N sc k) (fr : X.mg "range" = none) (ha : PD X a ρ (.int ((n : Int) - 1))) (hb : PD X b ρ (.int (-1))) (hc : PD X c3 ρ (.int (-1))) (h0 : n ≤ 100000) (hg : sc.names.lookup ("range" : Str) = some .globalImplicit := by rfl)
    (n1 : NoStar a := by exact fun _ _ => rfl) (n2 : NoStar b := by exact fun _ _ => rfl) (n3 : NoStar c3 := by exact fun _ _ => rfl) :
    PDA' X tg (.Call (.Name "range" p) [a, b, c3] [] pos) ρ ((List.range n).map fun i => ((n : Int) - 1) - ((i : Nat) : Int)) := fun σ H E R q =>
  ⟨_, pi_range3 (c.gl hg) fr (pa_cons pe_W (pa_cons pe_W (pa_cons pe_W pa_nil (n3 _ _)) (n2 _ _)) (n1 _ _)) (n1 _ _) (by rw [n2, n3]; rfl), ha σ H E _ fun v H1 s1 hv => hb σ H1 (E.mono s1) _ fun v2 H2 s2 hv2 => hc σ H2 (E.mono (s1.trans s2)) _ fun v3 H3 s3 hv3 => by
    cases hv
    cases hv2
    cases hv3
    have e1 : (((n : Int) - 1) - -1).toNat = n := by omega
    refine ⟨(n : Int) - 1, -1, -1, (((n : Int) - 1) - -1).toNat, rfl, RgC.neg (by omega) (by omega) (by omega) (by omega), ?_⟩
    rw [e1]
    exact q _ H3 (s1.trans (s2.trans s3)) ita_down⟩
end
structure BEnv (K : PySem.W.Frag) (H0 H : Hp) (σ : L2.St) (ρ0 ρ : Rho) (j : Nat) (l : Addr) (a : List PyData) : Prop where
  same : Same H0 H
  fresh : H0 l = none
  old : EnvD K H0 σ ρ0
  cur : EnvD K H σ ρ
  tp : ∀ (i : Nat) d, ρ[i]? = some (some d) → tupd d = true ∨ ρ0[i]? = some (some d)
  slot : σ[j]? = some (some (.ref l))
  lst : ∃ vs, H l = some (.lst vs) ∧ DqA K H vs a
  ta : ∀ d ∈ a, tupd d = true
  jn : ∀ d, ρ0[j]? ≠ some (some d)
def BA (X : Cx) (sts : List Stmt) (ρ0 : Rho) (j : Nat) (ρ : Rho) (a b : List PyData) : Prop := ∀ H0 H σ (D : Ends) l, BEnv X.K H0 H σ ρ0 ρ j l a → (∀ σ' H' ρ', BEnv X.K H0 H' σ' ρ0 ρ' j l b → D.nx σ' H') → WSs X sts D σ H
section
variable {K : PySem.W.Frag} {H0 H H' : Hp} {σ : L2.St} {ρ0 ρ : Rho} {j i : Nat} {l : Addr} {a b : List PyData} {v : V} {d : PyData}
theorem BEnv.mono (B : BEnv K H0 H σ ρ0 ρ j l a) (s : Same H H') : BEnv K H0 H' σ ρ0 ρ j l a :=
  { same := B.same.trans s, fresh := B.fresh, old := B.old, cur := B.cur.mono s, tp := B.tp, slot := B.slot, ta := B.ta, jn := B.jn, lst := by
      obtain ⟨vs, h1, h2⟩ := B.lst
      exact ⟨vs, s _ _ h1, h2.mono s⟩ }
theorem BEnv.set (B : BEnv K H0 H σ ρ0 ρ j l a) (hv : Dq K H v d) (ht : tupd d = true) (hij : i ≠ j) (hi : ∀ d, ρ0[i]? ≠ some (some d)) : BEnv K H0 H (σ.set i (some v)) ρ0 (ρ.set i (some d)) j l a :=
  { same := B.same, fresh := B.fresh, lst := B.lst, ta := B.ta, jn := B.jn, cur := B.cur.set hv i
    old := ⟨by simp [B.old.len], fun n e h => by
      have hn : i ≠ n := fun z => hi e (z ▸ h)
      rw [List.getElem?_set_ne hn]
      exact B.old.get n e h⟩
    tp := fun n e h => by
      by_cases hn : i = n
      · subst hn
        by_cases hl : i < ρ.length
        · rw [List.getElem?_set_self hl] at h
          cases h
          exact .inl ht
        · rw [List.getElem?_eq_none (by simpa using hl)] at h
          cases h
      · rw [List.getElem?_set_ne hn] at h
        exact B.tp n e h
    slot := by
      rw [List.getElem?_set_ne hij]
      exact B.slot }
theorem BEnv.app (B : BEnv K H0 H σ ρ0 ρ j l a) {vs : List V} (h1 : H l = some (.lst vs)) (h2 : DqA K H vs a) (hv : Dq K H v d) (ht : tupd d = true) : BEnv K H0 (upd H l (.lst (vs ++ [v]))) σ ρ0 ρ j l (a ++ [d]) := by
  have kp : Kept H (upd H l (.lst (vs ++ [v]))) := Kept.upd h1
  have s0 : Same H0 (upd H l (.lst (vs ++ [v]))) := fun b o e => by
    rw [upd_ne (ne_of_none e B.fresh)]
    exact B.same _ _ e
  refine ⟨s0, B.fresh, B.old, ⟨B.cur.len, fun n e h => ?_⟩, B.tp, B.slot, ⟨_, upd_same, (h2.kept kp _ _ (tupdA_all.mpr B.ta)).append (.cons (hv.kept kp _ _ ht) .nil)⟩, fun e he => ?_, B.jn⟩
  · rcases B.tp n e h with t | t
    · obtain ⟨u, g1, g2⟩ := B.cur.get n e h
      exact ⟨u, g1, g2.kept kp _ _ t⟩
    · obtain ⟨u, g1, g2⟩ := B.old.get n e t
      exact ⟨u, g1, g2.mono s0⟩
  · rcases List.mem_append.mp he with h | h
    · exact B.ta e h
    · rcases List.mem_cons.mp h with rfl | h
      · exact ht
      · cases h
end
section
variable {X : Cx} {N : List Str} {sc : Scope} {k : Nat} {ρ ρ0 : Rho} {d : PyData} {a b b2 : List PyData} {e : Expr} {rest body els : List Stmt} {p p2 pos : Pos} {j i : Nat} {t : Bool}
theorem ba_nil : BA X [] ρ0 j ρ a a := fun H0 H σ D l B q => wss_nil (q σ H ρ B)
theorem ba_set {x : Str} (c : DCtx X N sc k) (i : Nat) (he : PD X e ρ d) (ht : tupd d = true) (hk : BA X rest ρ0 j (ρ.set i (some d)) a b) (hij : i ≠ j := by decide) (hi : ∀ d, ρ0[i]? ≠ some (some d) := by intro d h; cases h) (hN : N[i]? = some x := by rfl) (hx : Loc sc x := by first | exact Or.inl rfl | exact Or.inr rfl)
    (hs : swapsWith e (some (.Name x p)) pos.line X.env = pure false := by rfl) : BA X (.Assign [.Name x p] e pos :: rest) ρ0 j ρ a b := fun H0 H σ D l B q =>
  ws_cons (ws_of (ps_set (i := i) c.nd' (by rw [c.hN]; exact hN) (c.loc hx) pe_W hs (.inl (c.fn x))) (he σ H B.cur _ fun v H1 s1 hv => hk H0 H1 _ D l ((B.mono s1).set hv ht hij hi) q))
theorem ba_if {c0 : Expr} (hc : PDT X c0 ρ t) (h1 : t = true → BA X body ρ0 j ρ a b) (h2 : t = false → BA X els ρ0 j ρ a b) : BA X [.If c0 body els pos] ρ0 j ρ a b := fun H0 H σ D l B q =>
  ws_cons (ws_of (ps_if pt_W pss_W pss_W) (hc σ H B.cur _ fun H1 s1 => by
    cases t with
    | true =>
      rw [if_pos rfl]
      exact h1 rfl H0 H1 σ _ l (B.mono s1) fun σ' H' ρ' B' => wss_nil (q σ' H' ρ' B')
    | false =>
      rw [if_neg (by decide)]
      exact h2 rfl H0 H1 σ _ l (B.mono s1) fun σ' H' ρ' B' => wss_nil (q σ' H' ρ' B')))
theorem ba_app {x : Str} {p3 p4 : Pos} (c : DCtx X N sc k) (he : PD X e ρ d) (ht : tupd d = true) (hl : a.length < 100000) (hk : BA X rest ρ0 j ρ (a ++ [d]) b) (hN : N[j]? = some x := by rfl) (hv : Vis sc x := by first | exact Or.inl rfl | exact Or.inr (Or.inl rfl) | exact Or.inr (Or.inr rfl))
    (hd : (x == ("__debug__" : Str)) = false := by decide) (hcd : (x == ("__classdict__" : Str)) = false := by decide) (hline : (p2.endLine == p3.line) = true := by rfl) (ns : NoStar e := by exact fun _ _ => rfl) :
    BA X (.Expr (.Call (.Attribute (.Name x p) "append" p2) [e] [] p3) p4 :: rest) ρ0 j ρ a b := fun H0 H σ D l B q => by
  have hst := ns [] X.env
  refine ws_cons (ws_of (ps_expr (pe_bm PySem.F.plainAttrs_list PySem.F.slot_list_append PySem.F.type_list_append mt_append (pe_var (i := j) (by rw [c.hN]; exact hN) (c.vis hv) hd hcd) (pa_cons pe_W pa_nil hst) (hline := hline) (hs := hst) (hfew := by rw [hst]; rfl))) ?_)
  obtain ⟨vs, h1, h2⟩ := B.lst
  refine ⟨.ref l, B.slot, .inl ⟨rfl, _, SqL.of h1⟩, he σ H B.cur _ fun v H1 s1 hv => ?_⟩
  have B1 := B.mono s1
  exact ⟨l, vs, v, rfl, rfl, s1 _ _ h1, by rw [h2.len]; exact Nat.lt_of_lt_of_le hl (by decide), hk H0 _ σ D l (B1.app (s1 _ _ h1) (h2.mono s1) hv ht) q⟩
/-- x = [] and the loop that fills it -/
theorem psd_build {x y : Str} {Nx : Rho → Prop} {R : PyData → Prop} {iter : Expr} {ds : List Int} {tp p5 pos2 : Pos} (c : DCtx X N sc k) (j i : Nat) (acc : Nat → List PyData) (ha : acc 0 = []) (hi : PDA' X (.Name y tp) iter (ρ.set j none) ds)
    (hb : ∀ (n : Nat) d, ds[n]? = some d → BA X body (ρ.set j none) j ((ρ.set j none).set i (some (.int d))) (acc n) (acc (n + 1))) (hr : PSD X rest (ρ.set j (some (.list (acc ds.length)))) Nx R)
    (hij : i ≠ j := by decide) (hi0 : ∀ d, (ρ.set j none)[i]? ≠ some (some d) := by intro d h; cases h) (hN : N[j]? = some x := by rfl) (hx : Loc sc x := by first | exact Or.inl rfl | exact Or.inr rfl) (hN2 : N[i]? = some y := by rfl) (hy : Loc sc y := by first | exact Or.inl rfl | exact Or.inr rfl)
    (hs : ∀ x, foldedSetIterable iter X.env x = pure x := by intro _; rfl) (hj : j < ρ.length := by exact Nat.le_of_ble_eq_true rfl) :
    PSD X (.Assign [.Name x p] (.List [] p5) pos :: .For (.Name y tp) iter body [] pos2 :: rest) ρ Nx R := fun σ H D E n r => by
  refine ws_cons (ws_of (ps_set (i := j) c.nd' (by rw [c.hN]; exact hN) (c.loc hx) (pe_lst pa_nil) rfl (.inl (c.fn x))) ⟨Nat.zero_le _, fun l nl => ?_⟩)
  have nj : ∀ d, (ρ.set j none)[j]? ≠ some (some d) := fun d h => by
    rw [List.getElem?_set_self hj] at h
    cases h
  have E0 : EnvD X.K H (σ.set j (some (.ref l))) (ρ.set j none) := by
    refine ⟨by simp [E.len], fun m e h => ?_⟩
    by_cases hm : j = m
    · subst hm
      exact absurd h (nj e)
    · rw [List.getElem?_set_ne hm] at h ⊢
      exact E.get m e h
  have B0 : BEnv X.K H (upd H l (.lst [])) (σ.set j (some (.ref l))) (ρ.set j none) (ρ.set j none) j l (acc 0) :=
    ⟨same_upd nl, nl, E0, E0.mono (same_upd nl), fun m e h => .inr h, List.getElem?_set_self (by rw [E.len]; exact hj), ⟨[], upd_same, by rw [ha]; exact .nil⟩, (by rw [ha]; intro d hd; exact nomatch hd), nj⟩
  refine ws_cons (ws_of (ps_for c.never c.calm pi_W (pg_name (i := i) c.nd' (by rw [c.hN]; exact hN2) (c.loc hy) (.inl (c.fn y))) pss_W hs) (hi _ _ B0.cur _ fun J H1 s1 hJ => ?_))
  refine ⟨fun m q σ' H' => m ≤ ds.length ∧ q = ds.length - m ∧ BEnv X.K H H' σ' (ρ.set j none) (ρ.set j none) j l (acc m), ⟨ds.length, Nat.zero_le _, rfl, B0.mono s1⟩, fun m q σ' H' hW => ?_⟩
  obtain ⟨hm, rfl, B⟩ := hW
  obtain ⟨jg, js⟩ := hJ m H'
  by_cases hlt : m < ds.length
  · have hd : ds[m]? = some ds[m] := List.getElem?_eq_getElem hlt
    generalize ds[m] = d at hd
    obtain ⟨go, yld⟩ := jg d hd
    refine .inr ⟨go, fun σ2 H2 => BEnv X.K H H2 σ2 (ρ.set j none) (ρ.set j none) j l (acc (m + 1)), fun σ2 H2 B2 => ⟨ds.length - (m + 1), by omega, hlt, rfl, B2⟩, fun x H2 y => ?_⟩
    obtain ⟨rfl, rfl⟩ := yld x H2 y
    refine hb m d hd H _ _ _ l (B.set (.int d) rfl hij hi0) fun σ3 H3 ρ3 B3 => ?_
    exact { B3 with cur := B3.old.mono B3.same, tp := fun m e h => .inr h }
  · have e : m = ds.length := by omega
    subst e
    refine .inl ⟨js (Nat.le_refl _), hr σ' H' D ?_ (fun ρ' σ2 H2 h s => n ρ' σ2 H2 h (B.same.trans s)) fun d v H2 h s => r d v H2 h (B.same.trans s)⟩
    obtain ⟨vs, g1, g2⟩ := B.lst
    refine ⟨by have := B.old.len; simpa using this, fun m e h => ?_⟩
    by_cases hm : j = m
    · subst hm
      rw [List.getElem?_set_self hj] at h
      cases h
      exact ⟨_, B.slot, .lst g1 g2⟩
    · rw [List.getElem?_set_ne hm] at h
      exact B.cur.get m e (by rw [List.getElem?_set_ne hm]; exact h)
end
end SC

set_option maxHeartbeats 4000000
/-! the program's fractions.py -/
namespace SC
open PySem PySem.Spec PyProof.Rows L2 RZ
def fr (q : Rat) : PyData := .tuple [.int q.num, .int (q.den : Int)]
theorem fr_inj {p q : Rat} (h : fr p = fr q) : p = q := by
  unfold fr at h
  injection h with h
  injection h with h1 h2
  injection h2 with h2 _
  injection h1 with h1
  injection h2 with h2
  exact Rat.ext h1 (by omega)
theorem sh_fr {n : Nat} (q : Rat) : Sh (n + 1) (fr q) := Sh.tuple fun d hd => by
  rcases List.mem_cons.mp hd with rfl | hd
  · exact Sh.int
  · rcases List.mem_cons.mp hd with rfl | hd
    · exact Sh.int
    · cases hd
theorem eqv_fr {p q : Rat} : PyData.eqv (fr p) (fr q) = decide (p = q) := by
  by_cases h : p = q
  · subst h
    rw [eqv_rf _ rfl, decide_eq_true rfl]
  · rw [eqv_ne rfl rfl fun z => h (fr_inj z), decide_eq_false h]
theorem fr_zero : fr 0 = .tuple [.int 0, .int 1] := rfl
def sgn (p q : Rat) : Int := if q < p then 1 else if p < q then -1 else 0
theorem sgn_eq (p q : Rat) : (if decide (q.num * (p.den : Int) < p.num * (q.den : Int)) = true then (1 : Int) else 0) - (if decide (p.num * (q.den : Int) < q.num * (p.den : Int)) = true then 1 else 0) = sgn p q := by
  have h1 := Rat.lt_iff q p
  have h2 := Rat.lt_iff p q
  unfold sgn
  by_cases a : q < p
  · have b : ¬ p < q := fun z => absurd (h2.mp z) (by have := h1.mp a; omega)
    rw [if_pos a, decide_eq_true (h1.mp a), decide_eq_false (fun z => b (h2.mpr z))]
    rfl
  · rw [if_neg a, decide_eq_false (fun z => a (h1.mpr z))]
    by_cases b : p < q
    · rw [if_pos b, decide_eq_true (h2.mp b)]
      rfl
    · rw [if_neg b, decide_eq_false (fun z => b (h2.mpr z))]
      rfl
def PR_is_number : List PyData → PyData → Prop := fun ds d => ∃ i, ds = [.int i] ∧ d = .bool true
def PR_divisor_of : List PyData → PyData → Prop := fun ds d => ∃ a b : Int, ds = [.int a, .int b] ∧ 0 ≤ a ∧ 0 ≤ b ∧ d = .int (Int.gcd a b)
def PR_is_fraction : List PyData → PyData → Prop := fun ds d => ∃ q, ds = [fr q] ∧ d = .bool true
def PR_fraction : List PyData → PyData → Prop := fun ds r => ∃ n d : Int, ds = [.int n, .int d] ∧ 0 < d ∧ d.natAbs < 2 ^ 9000 ∧ r = fr (Rat.divInt n d)
def PR_added : List PyData → PyData → Prop := fun ds d => ∃ p q, ds = [fr p, fr q] ∧ Sz 4000 p ∧ Sz 4000 q ∧ d = fr (p + q)
def PR_taken : List PyData → PyData → Prop := fun ds d => ∃ p q, ds = [fr p, fr q] ∧ Sz 4000 p ∧ Sz 4000 q ∧ d = fr (p - q)
def PR_times : List PyData → PyData → Prop := fun ds d => ∃ p q, ds = [fr p, fr q] ∧ Sz 4000 p ∧ Sz 4000 q ∧ d = fr (p * q)
def PR_over : List PyData → PyData → Prop := fun ds d => ∃ p q, ds = [fr p, fr q] ∧ Sz 4000 p ∧ Sz 4000 q ∧ 0 < q ∧ d = fr (p / q)
def PR_compared : List PyData → PyData → Prop := fun ds d => ∃ p q, ds = [fr p, fr q] ∧ Sz 9000 p ∧ Sz 9000 q ∧ d = .int (sgn p q)
def PR_whole_root : List PyData → PyData → Prop := fun ds d => ∃ m : Int, ds = [.int (m * m)] ∧ 0 ≤ m ∧ m.natAbs < 2 ^ 5000 ∧ d = .int m
def PR_root_of : List PyData → PyData → Prop := fun ds d => ∃ r : Rat, ds = [fr (r * r)] ∧ 0 ≤ r ∧ Sz 4500 r ∧ d = fr r
theorem mulW {a b : Int} {x y : Nat} (ha : a.natAbs < 2 ^ x) (hb : b.natAbs < 2 ^ y) (h0 : 0 < x := by decide) (h1 : 0 < y := by decide) (h : x + y ≤ 1000000 := by decide) : CMulW a b := wide_mul ha hb h0 h1 h
section
variable {P : Program} {w : World} {K : PySem.W.Frag} {mg : Str → Option Value} {base : Heap}
theorem kn_is_number (A : At K mg "is_number" s2) (f : Fr mg) : Kn P w K mg base "is_number" ["thing"] (spP K PR_is_number) 1 := by
  refine def_ok A sc2 (by rintro _ _ ⟨i, rfl, rfl⟩; rfl) (fun _ _ _ _ _ _ us hl => match us, hl with | [_], _ => rfl) ?_
  rintro X rfl rfl rfl rfl rfl c he _ _ ⟨i, rfl, rfl⟩
  have cc := c.toCtx
  exact psd_ret (pd_andT (pd_isiI cc f.b_isinstance f.b_int boot_int (pd_var cc 0) k_ii) (pd_one (pd_not (pd_isiI cc f.b_isinstance f.b_bool boot_bool (pd_var cc 0) k_ib)))) rfl
theorem kn_divisor_of (A : At K mg "divisor_of" s3) : Kn P w K mg base "divisor_of" ["one", "other"] (spP K PR_divisor_of) 1 := by
  refine def_ok A sc3 (by rintro _ _ ⟨a, b, rfl, _⟩; rfl) (fun _ _ _ _ _ _ us hl => match us, hl with | [_, _], _ => rfl) ?_
  rintro X rfl rfl rfl rfl rfl c he _ _ ⟨a, b, rfl, ha, hb, rfl⟩
  have cc := c.toCtx
  refine psd_while c (fun m ρ => ∃ x y : Int, ρ = [some (.int x), some (.int y)] ∧ m = y.toNat ∧ 0 ≤ x ∧ 0 ≤ y ∧ Int.gcd x y = Int.gcd a b) b.toNat ⟨a, b, rfl, rfl, ha, hb, rfl⟩ ?_
  rintro m _ ⟨x, y, rfl, rfl, hx, hy, hg⟩
  refine ⟨_, pdt_gt (pd_var cc 1) pd_int, fun ht => ?_, fun ht => ?_⟩
  · have hy1 : 0 < y := of_decide_eq_true ht
    refine psd_par c 0 1 (pd_var cc 1) (pd_mod (pd_var cc 0) (pd_var cc 1) hy1) (psd_nil ?_) (by obtain ⟨q, n, f, cd, he⟩ := he; rw [he]; rfl)
    have h1 := Int.emod_lt_of_pos x hy1
    have h0 := Int.emod_nonneg x (show y ≠ 0 by omega)
    exact ⟨(x % y).toNat, by omega, y, x % y, rfl, rfl, hy, h0, by rw [gcd_step hx hy1, hg]⟩
  · have hy0 : y = 0 := by
      have := of_decide_eq_false ht
      omega
    refine psd_ret (pd_var cc 0) ?_
    subst hy0
    rw [← hg, Int.gcd_zero_right]
    congr 1
    omega
theorem kn_is_fraction (A : At K mg "is_fraction" s4) (f : Fr mg) (g1 : Kn P w K mg base "is_number" ["thing"] (spP K PR_is_number) 1) (g2 : Kn P w K mg base "divisor_of" ["one", "other"] (spP K PR_divisor_of) 1) :
    Kn P w K mg base "is_fraction" ["thing"] (spP K PR_is_fraction) 2 := by
  refine def_ok A sc4 (by rintro _ _ ⟨a, rfl, _⟩; rfl) (fun _ _ _ _ _ _ us hl => match us, hl with | [_], _ => rfl) ?_
  rintro X rfl rfl rfl rfl rfl c he _ _ ⟨q, rfl, rfl⟩
  have cc := c.toCtx
  have hr : Int.gcd (q.num.natAbs : Int) (q.den : Int) = 1 := by
    have := q.reduced
    simp [Int.gcd]
    exact this
  refine psd_skip (pdt_w (pw_orF (pt_nT (pdt_val (pd_isiT cc f.b_isinstance f.b_tuple boot_tuple (pd_var cc 0) k_tt)))
    (pw_orF (pdt_neF cc (pd_lenT cc f.b_len (pd_var cc 0)) pd_int)
      (pw_orF (pt_nT (pdt_val (pd_call cc g1 (pda_cons (pd_ixT (pd_var cc 0) pd_int) pda_nil) ⟨_, rfl, rfl⟩)))
        (pdw_or1 (pt_nT (pdt_val (pd_call cc g1 (pda_cons (pd_ixT (pd_var cc 0) pd_int) pda_nil) ⟨_, rfl, rfl⟩)))))))) ?_
  refine psd_ret (PD.eq (pd_and (pd_ge (pd_ixT (pd_var cc 0) pd_int) pd_int) fun _ => pd_one (pd_eqT cc (pd_call cc g2 (pda_cons (pd_abs cc f.b_abs (pd_ixT (pd_var cc 0) pd_int)) (pda_cons (pd_ixT (pd_var cc 0) pd_int) pda_nil)) ⟨_, _, rfl, by omega, by omega, rfl⟩) pd_int ?_)) ?_) rfl
  · rw [hr]
    rfl
  · rw [Bool.and_true]
    congr 1
    exact decide_eq_true (by have := q.den_pos; omega)
theorem kn_fraction (A : At K mg "fraction" s5) (f : Fr mg) (g : Kn P w K mg base "divisor_of" ["one", "other"] (spP K PR_divisor_of) 1) :
    Kn P w K mg base "fraction" ["n", "d"] (spP K PR_fraction) 2 := by
  refine def_ok A sc5 (by rintro _ _ ⟨a, b, rfl, _⟩; rfl) (fun _ _ _ _ _ _ us hl => match us, hl with | [_, _], _ => rfl) ?_
  rintro X rfl rfl rfl rfl rfl c he _ _ ⟨n, d, rfl, hd, hs, rfl⟩
  have cc := c.toCtx
  have eg : Int.gcd (n.natAbs : Int) (d.natAbs : Int) = Int.gcd n d := by simp [Int.gcd]
  have hw : CDivW n (Int.gcd n d : Int) := wide_div (gcd_pos hd) (b := 9000) (Nat.lt_of_le_of_lt (by have := gcd_le (n := n) hd; omega) hs) (by decide) (by decide)
  have hw2 : CDivW d (Int.gcd n d : Int) := ⟨hw.1, hw.2⟩
  refine psd_set c 2 (pd_call cc g (pda_cons (pd_abs cc f.b_abs (pd_var cc 0)) (pda_cons (pd_abs cc f.b_abs (pd_var cc 1)) pda_nil)) ⟨_, _, rfl, by omega, by omega, rfl⟩) ?_
  rw [eg]
  refine psd_if (pdt_lt (pd_var cc 1) pd_int) (fun h => absurd (of_decide_eq_true h) (by omega)) fun _ => psd_nil ?_
  refine psd_ret (pd_tup (pda_cons (pd_fdiv (pd_var cc 0) (pd_var cc 2) hw) (pda_cons (pd_fdiv (pd_var cc 1) (pd_var cc 2) hw2) pda_nil))) ?_
  unfold fr
  rw [divInt_num hd, divInt_den hd]
theorem kn_added (A : At K mg "added" s6) (g : Kn P w K mg base "fraction" ["n", "d"] (spP K PR_fraction) 2) : Kn P w K mg base "added" ["one", "other"] (spP K PR_added) 3 := by
  refine def_ok A sc6 (by rintro _ _ ⟨a, b, rfl, _⟩; rfl) (fun _ _ _ _ _ _ us hl => match us, hl with | [_, _], _ => rfl) ?_
  rintro X rfl rfl rfl rfl rfl c he _ _ ⟨p, q, rfl, hp, hq, rfl⟩
  have cc := c.toCtx
  refine psd_ret (pd_call cc g (pda_cons (pd_add (pd_mul (pd_ixT (pd_var cc 0) pd_int) (pd_ixT (pd_var cc 1) pd_int) (mulW hp.n hq.dn)) (pd_mul (pd_ixT (pd_var cc 1) pd_int) (pd_ixT (pd_var cc 0) pd_int) (mulW hq.n hp.dn)))
    (pda_cons (pd_mul (pd_ixT (pd_var cc 0) pd_int) (pd_ixT (pd_var cc 1) pd_int) (mulW hp.dn hq.dn)) pda_nil)) ⟨_, _, rfl, dd_pos p q, lt_pow (lt_mul hp.dn hq.dn) (by decide), rfl⟩) ?_
  rw [add_di]
theorem kn_taken (A : At K mg "taken" s7) (g : Kn P w K mg base "fraction" ["n", "d"] (spP K PR_fraction) 2) : Kn P w K mg base "taken" ["one", "other"] (spP K PR_taken) 3 := by
  refine def_ok A sc7 (by rintro _ _ ⟨a, b, rfl, _⟩; rfl) (fun _ _ _ _ _ _ us hl => match us, hl with | [_, _], _ => rfl) ?_
  rintro X rfl rfl rfl rfl rfl c he _ _ ⟨p, q, rfl, hp, hq, rfl⟩
  have cc := c.toCtx
  refine psd_ret (pd_call cc g (pda_cons (pd_sub (pd_mul (pd_ixT (pd_var cc 0) pd_int) (pd_ixT (pd_var cc 1) pd_int) (mulW hp.n hq.dn)) (pd_mul (pd_ixT (pd_var cc 1) pd_int) (pd_ixT (pd_var cc 0) pd_int) (mulW hq.n hp.dn)))
    (pda_cons (pd_mul (pd_ixT (pd_var cc 0) pd_int) (pd_ixT (pd_var cc 1) pd_int) (mulW hp.dn hq.dn)) pda_nil)) ⟨_, _, rfl, dd_pos p q, lt_pow (lt_mul hp.dn hq.dn) (by decide), rfl⟩) ?_
  rw [sub_di]
theorem kn_times (A : At K mg "times" s8) (g : Kn P w K mg base "fraction" ["n", "d"] (spP K PR_fraction) 2) : Kn P w K mg base "times" ["one", "other"] (spP K PR_times) 3 := by
  refine def_ok A sc8 (by rintro _ _ ⟨a, b, rfl, _⟩; rfl) (fun _ _ _ _ _ _ us hl => match us, hl with | [_, _], _ => rfl) ?_
  rintro X rfl rfl rfl rfl rfl c he _ _ ⟨p, q, rfl, hp, hq, rfl⟩
  have cc := c.toCtx
  refine psd_ret (pd_call cc g (pda_cons (pd_mul (pd_ixT (pd_var cc 0) pd_int) (pd_ixT (pd_var cc 1) pd_int) (mulW hp.n hq.n))
    (pda_cons (pd_mul (pd_ixT (pd_var cc 0) pd_int) (pd_ixT (pd_var cc 1) pd_int) (mulW hp.dn hq.dn)) pda_nil)) ⟨_, _, rfl, dd_pos p q, lt_pow (lt_mul hp.dn hq.dn) (by decide), rfl⟩) ?_
  rw [mul_di]
theorem kn_over (A : At K mg "over" s9) (g : Kn P w K mg base "fraction" ["n", "d"] (spP K PR_fraction) 2) : Kn P w K mg base "over" ["one", "other"] (spP K PR_over) 3 := by
  refine def_ok A sc9 (by rintro _ _ ⟨a, b, rfl, _⟩; rfl) (fun _ _ _ _ _ _ us hl => match us, hl with | [_, _], _ => rfl) ?_
  rintro X rfl rfl rfl rfl rfl c he _ _ ⟨p, q, rfl, hp, hq, h0, rfl⟩
  have cc := c.toCtx
  refine psd_ret (pd_call cc g (pda_cons (pd_mul (pd_ixT (pd_var cc 0) pd_int) (pd_ixT (pd_var cc 1) pd_int) (mulW hp.n hq.dn))
    (pda_cons (pd_mul (pd_ixT (pd_var cc 0) pd_int) (pd_ixT (pd_var cc 1) pd_int) (mulW hp.dn hq.n)) pda_nil)) ⟨_, _, rfl, Int.mul_pos (den_p p) (num_pos h0), lt_pow (lt_mul hp.dn hq.n) (by decide), rfl⟩) ?_
  rw [div_di]
theorem kn_compared (A : At K mg "compared" s10) (f : Fr mg) : Kn P w K mg base "compared" ["one", "other"] (spP K PR_compared) 1 := by
  refine def_ok A sc10 (by rintro _ _ ⟨a, b, rfl, _⟩; rfl) (fun _ _ _ _ _ _ us hl => match us, hl with | [_, _], _ => rfl) ?_
  rintro X rfl rfl rfl rfl rfl c he _ _ ⟨p, q, rfl, hp, hq, rfl⟩
  have cc := c.toCtx
  refine psd_par c 2 3 (pd_mul (pd_ixT (pd_var cc 0) pd_int) (pd_ixT (pd_var cc 1) pd_int) (mulW hp.n hq.dn)) (pd_mul (pd_ixT (pd_var cc 1) pd_int) (pd_ixT (pd_var cc 0) pd_int) (mulW hq.n hp.dn)) ?_ (by obtain ⟨q, n, f, cd, he⟩ := he; rw [he]; rfl)
  refine psd_ret (pd_sub (pd_intB cc f.b_int (pd_gt (pd_var cc 2) (pd_var cc 3))) (pd_intB cc f.b_int (pd_lt (pd_var cc 2) (pd_var cc 3)))) ?_
  rw [sgn_eq]
theorem kn_whole_root (A : At K mg "whole_root" s11) : Kn P w K mg base "whole_root" ["number"] (spP K PR_whole_root) 1 := by
  refine def_ok A sc11 (by rintro _ _ ⟨a, rfl, _⟩; rfl) (fun _ _ _ _ _ _ us hl => match us, hl with | [_], _ => rfl) ?_
  rintro X rfl rfl rfl rfl rfl c he _ _ ⟨m, rfl, hm, hs, rfl⟩
  have cc := c.toCtx
  have hmm : 0 ≤ m * m := Int.mul_nonneg hm hm
  have hbig : (m * m).natAbs < 2 ^ 10000 := lt_mul hs hs
  have hbig2 : m * m + 1 < 2 ^ 10001 := by
    have : (m * m + 1).natAbs < 2 ^ 10001 := lt_add hbig (Nat.lt_of_lt_of_le (by decide : (1 : Int).natAbs < 2 ^ 1) (Nat.pow_le_pow_right (by decide) (by decide)))
    omega
  refine psd_par c 1 2 pd_int (pd_add (pd_var cc 0) pd_int) ?_ (by obtain ⟨q, n, f, cd, he⟩ := he; rw [he]; rfl)
  refine psd_while c (fun j ρ => ∃ (lo hi : Int) (z : Option PyData), ρ = [some (.int (m * m)), some (.int lo), some (.int hi), z] ∧ j = (hi - lo).toNat ∧ 0 ≤ lo ∧ lo * lo ≤ m * m ∧ m * m < hi * hi ∧ lo < hi ∧ hi ≤ m * m + 1) (m * m + 1 - 0).toNat
    ⟨0, m * m + 1, none, rfl, rfl, (by omega), (by omega), ?_, (by omega), (by omega)⟩ ?_
  · have : m * m + 1 ≤ (m * m + 1) * (m * m + 1) := by
      have := Int.mul_le_mul_of_nonneg_left (show (1 : Int) ≤ m * m + 1 by omega) (show 0 ≤ m * m + 1 by omega)
      rw [Int.mul_one] at this
      exact this
    omega
  · rintro j _ ⟨lo, hi, z, rfl, rfl, h0, h1, h2, h3, h4⟩
    refine ⟨_, pdt_gt (pd_sub (pd_var cc 2) (pd_var cc 1)) pd_int, fun ht => ?_, fun ht => ?_⟩
    · have ht' : 1 < hi - lo := of_decide_eq_true ht
      have g1 : lo < (lo + hi) / 2 := by omega
      have g2 : (lo + hi) / 2 < hi := by omega
      have gs : ((lo + hi) / 2).natAbs < 2 ^ 10001 := by omega
      refine psd_set c 3 (pd_fdiv (pd_add (pd_var cc 1) (pd_var cc 2)) pd_int ⟨by decide, by decide⟩) ?_
      refine psd_if (pdt_le (pd_mul (pd_var cc 3) (pd_var cc 3) (mulW gs gs)) (pd_var cc 0)) (fun hq => psd_set c 1 (pd_var cc 3) (psd_nil (psd_nil ?_))) (fun hq => psd_set c 2 (pd_var cc 3) (psd_nil (psd_nil ?_)))
      · exact ⟨(hi - (lo + hi) / 2).toNat, by omega, _, hi, _, rfl, rfl, by omega, of_decide_eq_true hq, h2, g2, h4⟩
      · have := of_decide_eq_false hq
        exact ⟨((lo + hi) / 2 - lo).toNat, by omega, lo, _, _, rfl, rfl, h0, h1, by omega, g1, by omega⟩
    · have ht' : ¬ hi - lo > 1 := of_decide_eq_false ht
      refine psd_ret (pd_var cc 1) ?_
      rw [sqrt_end h0 hm h1 h2 h3 ht']
theorem fr_sq (r : Rat) : fr (r * r) = .tuple [.int (r.num * r.num), .int ((r.den : Int) * r.den)] := by
  unfold fr
  rw [(sq_num r).1, (sq_num r).2]
theorem kn_root_of (A : At K mg "root_of" s12) (g : Kn P w K mg base "whole_root" ["number"] (spP K PR_whole_root) 1) : Kn P w K mg base "root_of" ["one"] (spP K PR_root_of) 2 := by
  refine def_ok A sc12 (by rintro _ _ ⟨a, rfl, _⟩; rfl) (fun _ _ _ _ _ _ us hl => match us, hl with | [_], _ => rfl) ?_
  rintro X rfl rfl rfl rfl rfl c he _ _ ⟨r, rfl, h0, hs, rfl⟩
  have cc := c.toCtx
  have hn : 0 ≤ r.num := Rat.num_nonneg.mpr h0
  have hnn : 0 ≤ r.num * r.num := Int.mul_nonneg hn hn
  have hn' : r.num.natAbs < 2 ^ 5000 := lt_pow hs.n (by decide)
  have hd' : (r.den : Int).natAbs < 2 ^ 5000 := lt_pow hs.dn (by decide)
  rw [fr_sq]
  refine psd_if (pdt_lt (pd_ixT (pd_var cc 0) pd_int) pd_int) (fun h => absurd (of_decide_eq_true h) (by omega)) fun _ => psd_nil ?_
  refine psd_par c 1 2 (pd_call cc g (pda_cons (pd_ixT (pd_var cc 0) pd_int) pda_nil) ⟨_, rfl, hn, hn', rfl⟩) (pd_call cc g (pda_cons (pd_ixT (pd_var cc 0) pd_int) pda_nil) ⟨_, rfl, by omega, hd', rfl⟩) ?_ (by obtain ⟨q, n, f, cd, he⟩ := he; rw [he]; rfl)
  refine psd_skip (pdt_w (pw_orF (pdt_neF cc (pd_mul (pd_var cc 1) (pd_var cc 1) (mulW hn' hn')) (pd_ixT (pd_var cc 0) pd_int) (eqv_rf _ rfl)) (pdw_or1 (pdt_neF cc (pd_mul (pd_var cc 2) (pd_var cc 2) (mulW hd' hd')) (pd_ixT (pd_var cc 0) pd_int) (eqv_rf _ rfl))))) ?_
  exact psd_ret (pd_tup (pda_cons (pd_var cc 1) (pda_cons (pd_var cc 2) pda_nil))) rfl
end
end SC

set_option maxHeartbeats 4000000
/-! the program's points.py -/
namespace SC
open PySem PySem.Spec PyProof.Rows L2 RZ
abbrev Pt := Rat × Rat
def pt (p : Pt) : PyData := .tuple [fr p.1, fr p.2]
structure SzP (n : Nat) (p : Pt) : Prop where
  x : Sz n p.1
  y : Sz n p.2
theorem SzP.mono {a b : Nat} {p : Pt} (h : SzP a p) (k : a ≤ b) : SzP b p := ⟨h.x.mono k, h.y.mono k⟩
def padd (p q : Pt) : Pt := (p.1 + q.1, p.2 + q.2)
def psub (p q : Pt) : Pt := (p.1 - q.1, p.2 - q.2)
def dotP (p q : Pt) : Rat := p.1 * q.1 + p.2 * q.2
def crossP (p q : Pt) : Rat := p.1 * q.2 - p.2 * q.1
def leftP (p : Pt) : Pt := (-p.2, p.1)
def negP (p : Pt) : Pt := (-p.1, -p.2)
def divP (p : Pt) (r : Rat) : Pt := (p.1 / r, p.2 / r)
theorem pt_inj {p q : Pt} (h : pt p = pt q) : p = q := by
  unfold pt at h
  injection h with h
  injection h with h1 h2
  injection h2 with h2 _
  exact Prod.ext (fr_inj h1) (fr_inj h2)
theorem sh_pt {n : Nat} (p : Pt) : Sh (n + 2) (pt p) := Sh.tuple fun d hd => by
  rcases List.mem_cons.mp hd with rfl | hd
  · exact sh_fr _
  · rcases List.mem_cons.mp hd with rfl | hd
    · exact sh_fr _
    · cases hd
theorem eqv_pt {p q : Pt} : PyData.eqv (pt p) (pt q) = decide (p = q) := by
  by_cases h : p = q
  · subst h
    rw [eqv_rf _ rfl, decide_eq_true rfl]
  · rw [eqv_ne rfl rfl fun z => h (pt_inj z), decide_eq_false h]
theorem SzP.sub {a b : Nat} {p q : Pt} (hp : SzP a p) (hq : SzP b q) : SzP (a + b + 1) (psub p q) := ⟨hp.x.sub hq.x, hp.y.sub hq.y⟩
theorem SzP.add {a b : Nat} {p q : Pt} (hp : SzP a p) (hq : SzP b q) : SzP (a + b + 1) (padd p q) := ⟨hp.x.add hq.x, hp.y.add hq.y⟩
theorem SzP.dot {a b : Nat} {p q : Pt} (hp : SzP a p) (hq : SzP b q) : Sz (a + b + (a + b) + 1) (dotP p q) := (hp.x.mul hq.x).add (hp.y.mul hq.y)
theorem SzP.cross {a b : Nat} {p q : Pt} (hp : SzP a p) (hq : SzP b q) : Sz (a + b + (a + b) + 1) (crossP p q) := (hp.x.mul hq.y).sub (hp.y.mul hq.x)
theorem SzP.left {a : Nat} {p : Pt} (hp : SzP a p) : SzP a (leftP p) := ⟨hp.y.neg, hp.x⟩
theorem SzP.neg {a : Nat} {p : Pt} (hp : SzP a p) : SzP a (negP p) := ⟨hp.x.neg, hp.y.neg⟩
theorem SzP.div {a b : Nat} {p : Pt} {r : Rat} (hp : SzP a p) (hr : Sz b r) (h : 0 < r) : SzP (a + b) (divP p r) := ⟨hp.x.div hr h, hp.y.div hr h⟩
/-- the length of a vector of size n -/
theorem SzP.len {n : Nat} {v : Pt} {r : Rat} (h : SzP n v) (e : r * r = dotP v v) : Sz (4 * n + 1) r := by
  apply Sz.root
  rw [e]
  exact (h.dot h).mono (by omega)
def PR_plus : List PyData → PyData → Prop := fun ds d => ∃ p q, ds = [pt p, pt q] ∧ SzP 4000 p ∧ SzP 4000 q ∧ d = pt (padd p q)
def PR_minus : List PyData → PyData → Prop := fun ds d => ∃ p q, ds = [pt p, pt q] ∧ SzP 4000 p ∧ SzP 4000 q ∧ d = pt (psub p q)
def PR_dot : List PyData → PyData → Prop := fun ds d => ∃ p q, ds = [pt p, pt q] ∧ SzP 1900 p ∧ SzP 1900 q ∧ d = fr (dotP p q)
def PR_cross : List PyData → PyData → Prop := fun ds d => ∃ p q, ds = [pt p, pt q] ∧ SzP 1900 p ∧ SzP 1900 q ∧ d = fr (crossP p q)
def PR_left_of : List PyData → PyData → Prop := fun ds d => ∃ p, ds = [pt p] ∧ SzP 4000 p ∧ d = pt (leftP p)
def PR_length_of : List PyData → PyData → Prop := fun ds d => ∃ v r, ds = [pt v] ∧ SzP 1000 v ∧ 0 ≤ r ∧ r * r = dotP v v ∧ d = fr r
def PR_unit_of : List PyData → PyData → Prop := fun ds d => ∃ v r, ds = [pt v] ∧ SzP 500 v ∧ 0 < r ∧ r * r = dotP v v ∧ d = pt (divP v r)
section
variable {P : Program} {w : World} {K : PySem.W.Frag} {mg : Str → Option Value} {base : Heap}
theorem kn_plus (A : At K mg "plus" s14) (g : Kn P w K mg base "added" ["one", "other"] (spP K PR_added) 3) : Kn P w K mg base "plus" ["one", "other"] (spP K PR_plus) 4 := by
  refine def_ok A sc14 (by rintro _ _ ⟨a, b, rfl, _⟩; rfl) (fun _ _ _ _ _ _ us hl => match us, hl with | [_, _], _ => rfl) ?_
  rintro X rfl rfl rfl rfl rfl c he _ _ ⟨p, q, rfl, hp, hq, rfl⟩
  have cc := c.toCtx
  exact psd_ret (pd_tup (pda_cons (pd_call cc g (pda_cons (pd_ixT (pd_var cc 0) pd_int) (pda_cons (pd_ixT (pd_var cc 1) pd_int) pda_nil)) ⟨_, _, rfl, hp.x, hq.x, rfl⟩)
    (pda_cons (pd_call cc g (pda_cons (pd_ixT (pd_var cc 0) pd_int) (pda_cons (pd_ixT (pd_var cc 1) pd_int) pda_nil)) ⟨_, _, rfl, hp.y, hq.y, rfl⟩) pda_nil))) rfl
theorem kn_minus (A : At K mg "minus" s15) (g : Kn P w K mg base "taken" ["one", "other"] (spP K PR_taken) 3) : Kn P w K mg base "minus" ["one", "other"] (spP K PR_minus) 4 := by
  refine def_ok A sc15 (by rintro _ _ ⟨a, b, rfl, _⟩; rfl) (fun _ _ _ _ _ _ us hl => match us, hl with | [_, _], _ => rfl) ?_
  rintro X rfl rfl rfl rfl rfl c he _ _ ⟨p, q, rfl, hp, hq, rfl⟩
  have cc := c.toCtx
  exact psd_ret (pd_tup (pda_cons (pd_call cc g (pda_cons (pd_ixT (pd_var cc 0) pd_int) (pda_cons (pd_ixT (pd_var cc 1) pd_int) pda_nil)) ⟨_, _, rfl, hp.x, hq.x, rfl⟩)
    (pda_cons (pd_call cc g (pda_cons (pd_ixT (pd_var cc 0) pd_int) (pda_cons (pd_ixT (pd_var cc 1) pd_int) pda_nil)) ⟨_, _, rfl, hp.y, hq.y, rfl⟩) pda_nil))) rfl
theorem kn_dot (A : At K mg "dot" s16) (g : Kn P w K mg base "added" ["one", "other"] (spP K PR_added) 3) (g2 : Kn P w K mg base "times" ["one", "other"] (spP K PR_times) 3) : Kn P w K mg base "dot" ["one", "other"] (spP K PR_dot) 4 := by
  refine def_ok A sc16 (by rintro _ _ ⟨a, b, rfl, _⟩; rfl) (fun _ _ _ _ _ _ us hl => match us, hl with | [_, _], _ => rfl) ?_
  rintro X rfl rfl rfl rfl rfl c he _ _ ⟨p, q, rfl, hp, hq, rfl⟩
  have cc := c.toCtx
  have hp' := hp.mono (show 1900 ≤ 4000 by decide)
  have hq' := hq.mono (show 1900 ≤ 4000 by decide)
  exact psd_ret (pd_call cc g (pda_cons (pd_call cc g2 (pda_cons (pd_ixT (pd_var cc 0) pd_int) (pda_cons (pd_ixT (pd_var cc 1) pd_int) pda_nil)) ⟨_, _, rfl, hp'.x, hq'.x, rfl⟩)
    (pda_cons (pd_call cc g2 (pda_cons (pd_ixT (pd_var cc 0) pd_int) (pda_cons (pd_ixT (pd_var cc 1) pd_int) pda_nil)) ⟨_, _, rfl, hp'.y, hq'.y, rfl⟩) pda_nil)) ⟨_, _, rfl, (hp.x.mul hq.x).mono (by decide), (hp.y.mul hq.y).mono (by decide), rfl⟩) rfl
theorem kn_cross (A : At K mg "cross" s17) (g : Kn P w K mg base "taken" ["one", "other"] (spP K PR_taken) 3) (g2 : Kn P w K mg base "times" ["one", "other"] (spP K PR_times) 3) : Kn P w K mg base "cross" ["one", "other"] (spP K PR_cross) 4 := by
  refine def_ok A sc17 (by rintro _ _ ⟨a, b, rfl, _⟩; rfl) (fun _ _ _ _ _ _ us hl => match us, hl with | [_, _], _ => rfl) ?_
  rintro X rfl rfl rfl rfl rfl c he _ _ ⟨p, q, rfl, hp, hq, rfl⟩
  have cc := c.toCtx
  have hp' := hp.mono (show 1900 ≤ 4000 by decide)
  have hq' := hq.mono (show 1900 ≤ 4000 by decide)
  exact psd_ret (pd_call cc g (pda_cons (pd_call cc g2 (pda_cons (pd_ixT (pd_var cc 0) pd_int) (pda_cons (pd_ixT (pd_var cc 1) pd_int) pda_nil)) ⟨_, _, rfl, hp'.x, hq'.y, rfl⟩)
    (pda_cons (pd_call cc g2 (pda_cons (pd_ixT (pd_var cc 0) pd_int) (pda_cons (pd_ixT (pd_var cc 1) pd_int) pda_nil)) ⟨_, _, rfl, hp'.y, hq'.x, rfl⟩) pda_nil)) ⟨_, _, rfl, (hp.x.mul hq.y).mono (by decide), (hp.y.mul hq.x).mono (by decide), rfl⟩) rfl
theorem kn_left_of (A : At K mg "left_of" s18) (C : CstK K mg "NOUGHT_fractions" (fr 0)) (g : Kn P w K mg base "taken" ["one", "other"] (spP K PR_taken) 3) : Kn P w K mg base "left_of" ["vector"] (spP K PR_left_of) 4 := by
  refine def_ok A sc18 (by rintro _ _ ⟨a, rfl, _⟩; rfl) (fun _ _ _ _ _ _ us hl => match us, hl with | [_], _ => rfl) ?_
  rintro X rfl rfl rfl rfl rfl c he _ _ ⟨p, rfl, hp, rfl⟩
  have cc := c.toCtx
  refine psd_ret (pd_tup (pda_cons (pd_call cc g (pda_cons (pd_glob cc C) (pda_cons (pd_ixT (pd_var cc 0) pd_int) pda_nil)) ⟨_, _, rfl, Sz.zero (a := 3999), hp.y, rfl⟩) (pda_cons (pd_ixT (pd_var cc 0) pd_int) pda_nil))) ?_
  show PyData.tuple [fr (0 - p.2), fr p.1] = .tuple [fr (-p.2), fr p.1]
  rw [show (0 : Rat) - p.2 = -p.2 by grind]
theorem kn_length_of (A : At K mg "length_of" s19) (g : Kn P w K mg base "dot" ["one", "other"] (spP K PR_dot) 4) (g2 : Kn P w K mg base "root_of" ["one"] (spP K PR_root_of) 2) : Kn P w K mg base "length_of" ["vector"] (spP K PR_length_of) 5 := by
  refine def_ok A sc19 (by rintro _ _ ⟨a, b, rfl, _⟩; rfl) (fun _ _ _ _ _ _ us hl => match us, hl with | [_], _ => rfl) ?_
  rintro X rfl rfl rfl rfl rfl c he _ _ ⟨v, r, rfl, hv, h0, hr, rfl⟩
  have cc := c.toCtx
  have hv' := hv.mono (show 1000 ≤ 1900 by decide)
  exact psd_ret (pd_call cc g2 (pda_cons (pd_call cc g (pda_cons (pd_var cc 0) (pda_cons (pd_var cc 0) pda_nil)) ⟨_, _, rfl, hv', hv', rfl⟩) pda_nil) ⟨r, by rw [hr], h0, (hv.len hr).mono (by decide), rfl⟩) rfl
theorem kn_unit_of (A : At K mg "unit_of" s20) (C : CstK K mg "NOUGHT_fractions" (fr 0)) (g : Kn P w K mg base "length_of" ["vector"] (spP K PR_length_of) 5) (g2 : Kn P w K mg base "over" ["one", "other"] (spP K PR_over) 3) : Kn P w K mg base "unit_of" ["vector"] (spP K PR_unit_of) 6 := by
  refine def_ok A sc20 (by rintro _ _ ⟨a, b, rfl, _⟩; rfl) (fun _ _ _ _ _ _ us hl => match us, hl with | [_], _ => rfl) ?_
  rintro X rfl rfl rfl rfl rfl c he _ _ ⟨v, r, rfl, hv, h0, hr, rfl⟩
  have cc := c.toCtx
  have hv' := hv.mono (show 500 ≤ 4000 by decide)
  have hr' : Sz 4000 r := (hv.len hr).mono (by decide)
  refine psd_set c 1 (pd_call cc g (pda_cons (pd_var cc 0) pda_nil) ⟨_, r, rfl, hv.mono (by decide), Rat.le_of_lt h0, hr, rfl⟩) ?_
  refine psd_skip (pdt_w (pw_orF (pdt_isNF (pd_var cc 1) pd_non) (pdw_or1 (pdt_eqF cc (pd_var cc 1) (pd_glob cc C) ?_)))) ?_
  · rw [eqv_fr]
    exact decide_eq_false (Rat.ne_of_gt h0)
  · exact psd_ret (pd_tup (pda_cons (pd_call cc g2 (pda_cons (pd_ixT (pd_var cc 0) pd_int) (pda_cons (pd_var cc 1) pda_nil)) ⟨_, _, rfl, hv'.x, hr', h0, rfl⟩)
      (pda_cons (pd_call cc g2 (pda_cons (pd_ixT (pd_var cc 0) pd_int) (pda_cons (pd_var cc 1) pda_nil)) ⟨_, _, rfl, hv'.y, hr', h0, rfl⟩) pda_nil))) rfl
end
end SC

set_option maxHeartbeats 4000000
/-! paths, as plain data -/
namespace SC
open PySem PySem.Spec PyProof.Rows L2 RZ
inductive Pc where
  | side (to : Pt)
  | arc (mid to : Pt) (left : Bool)
  deriving Inhabited
def Pc.to : Pc → Pt
  | .side t => t
  | .arc _ t _ => t
def turnS (l : Bool) : Str := if l then "left" else "right"
def pcD : Pc → PyData
  | .side t => .tuple [.str "side", pt t]
  | .arc m t l => .tuple [.str "arc", pt m, pt t, .str (turnS l)]
structure Path where
  s : Pt
  ps : List Pc
def Path.n (p : Path) : Nat := p.ps.length
def pathD (p : Path) : PyData := .tuple [pt p.s, .tuple (p.ps.map pcD)]
def pieceAt (p : Path) (i : Nat) : Pc := p.ps.getD i (.side (0, 0))
def beginAt (p : Path) (i : Nat) : Pt := if i = 0 then p.s else (pieceAt p (i - 1)).to
theorem piece_get {p : Path} {i : Nat} (h : i < p.n) : p.ps[i]? = some (pieceAt p i) := by
  unfold pieceAt
  rw [List.getD_eq_getElem?_getD, List.getElem?_eq_getElem h]
  rfl
theorem pieceD_get {p : Path} {i : Nat} (h : i < p.n) : (p.ps.map pcD)[i]? = some (pcD (pieceAt p i)) := by
  rw [List.getElem?_map, piece_get h]
  rfl
/-- a vector's length -/
noncomputable def lenP (v : Pt) : Rat := rt (dotP v v)
theorem lenP_eq {v : Pt} {r : Rat} (h0 : 0 ≤ r) (h : r * r = dotP v v) : lenP v = r := by
  unfold lenP
  rw [← h, rt_sq h0]
noncomputable def unitP (v : Pt) : Pt := divP v (lenP v)
def OkPc (b : Pt) : Pc → Prop
  | .side t => t ≠ b ∧ ∃ r : Rat, 0 < r ∧ r * r = dotP (psub t b) (psub t b)
  | .arc m t _ => t ≠ b ∧ ∃ r : Rat, 0 < r ∧ r * r = dotP (psub b m) (psub b m) ∧ r * r = dotP (psub t m) (psub t m)
def SzPc (n : Nat) : Pc → Prop
  | .side t => SzP n t
  | .arc m t _ => SzP n m ∧ SzP n t
theorem SzPc.to {n : Nat} {c : Pc} (h : SzPc n c) : SzP n c.to := by
  cases c with
  | side t => exact h
  | arc m t l => exact h.2
structure Ok (p : Path) : Prop where
  pos : 0 < p.n
  len : p.n ≤ 60
  ok : ∀ i, i < p.n → OkPc (beginAt p i) (pieceAt p i)
  ss : SzP 100 p.s
  sp : ∀ i, i < p.n → SzPc 100 (pieceAt p i)
theorem Ok.sb {p : Path} (h : Ok p) {i : Nat} (hi : i ≤ p.n) : SzP 100 (beginAt p i) := by
  unfold beginAt
  split
  · exact h.ss
  · exact (h.sp (i - 1) (by omega)).to
noncomputable def headAt (m : Pt) (l : Bool) (q : Pt) : Pt := if l then leftP (unitP (psub q m)) else negP (leftP (unitP (psub q m)))
/-- a piece's directions at its begin, at its end -/
noncomputable def hB (b : Pt) : Pc → Pt
  | .side t => unitP (psub t b)
  | .arc m _ l => headAt m l b
noncomputable def hE (b : Pt) : Pc → Pt
  | .side t => unitP (psub t b)
  | .arc m t l => headAt m l t
noncomputable def rad : Pc → PyData
  | .side _ => .none
  | .arc m t _ => fr (lenP (psub t m))
def closed (p : Path) : Bool := decide (beginAt p p.n = p.s)
open Classical in
def word (u v : Pt) : Str := if u = v then "straight" else if 0 < crossP u v then "left" else if crossP u v < 0 then "right" else "back"
/-- the word at the begin of piece j -/
noncomputable def cw (p : Path) (j : Nat) : Str := word (hE (beginAt p (if j = 0 then p.n - 1 else j - 1)) (pieceAt p (if j = 0 then p.n - 1 else j - 1))) (hB (beginAt p j) (pieceAt p j))
def cD (j : Nat) (x : Str) : PyData := .tuple [.int (j : Int), .str x]
noncomputable def cornersTo (p : Path) (i : Nat) : List PyData := ((List.range i).filter fun j => decide (0 < j) || closed p).map fun j => cD j (cw p j)
noncomputable def cornersL (p : Path) : List PyData := cornersTo p p.n
def revPc (b : Pt) : Pc → Pc
  | .side _ => .side b
  | .arc m _ l => .arc m b (!l)
def turned (p : Path) : Path := ⟨beginAt p p.n, (List.range p.n).map fun j => revPc (beginAt p (p.n - 1 - j)) (pieceAt p (p.n - 1 - j))⟩
def mirP (p : Pt) : Pt := (-p.1, p.2)
def mirPc : Pc → Pc
  | .side t => .side (mirP t)
  | .arc m t l => .arc (mirP m) (mirP t) (!l)
def mir (p : Path) : Path := ⟨mirP p.s, p.ps.map mirPc⟩
def movPc (v : Pt) : Pc → Pc
  | .side t => .side (padd t v)
  | .arc m t l => .arc (padd m v) (padd t v) l
def mov (p : Path) (v : Pt) : Path := ⟨padd p.s v, p.ps.map (movPc v)⟩
def endsL (p : Path) : List PyData := (List.range (p.n + 1)).map fun i => pt (beginAt p i)

/-! ### data of paths is plain, of few storeys, of tuples -/
theorem pl_pc (c : Pc) : pl (pcD c) = true := by
  cases c <;> rfl
theorem sh_pc {n : Nat} (c : Pc) : Sh (n + 3) (pcD c) := by
  cases c with
  | side t =>
    refine Sh.tuple fun d hd => ?_
    rcases List.mem_cons.mp hd with rfl | hd
    · exact ⟨by decide +kernel, by simp [PyData.depth]⟩
    · rcases List.mem_cons.mp hd with rfl | hd
      · exact sh_pt _
      · cases hd
  | arc m t l =>
    refine Sh.tuple fun d hd => ?_
    rcases List.mem_cons.mp hd with rfl | hd
    · exact ⟨by decide +kernel, by simp [PyData.depth]⟩
    · rcases List.mem_cons.mp hd with rfl | hd
      · exact sh_pt _
      · rcases List.mem_cons.mp hd with rfl | hd
        · exact sh_pt _
        · rcases List.mem_cons.mp hd with rfl | hd
          · cases l <;> exact ⟨by decide +kernel, by simp [PyData.depth]⟩
          · cases hd
theorem pl_path (p : Path) : pl (pathD p) = true := by
  have h : plA (p.ps.map pcD) = true := plA_all.mpr fun d hd => by
    obtain ⟨c, _, rfl⟩ := List.mem_map.mp hd
    exact pl_pc c
  show (pl (pt p.s) && (plA (p.ps.map pcD) && true)) = true
  rw [h]
  rfl
theorem sh_path (p : Path) : Sh 8 (pathD p) := Sh.tuple fun d hd => by
  rcases List.mem_cons.mp hd with rfl | hd
  · exact sh_pt _
  · rcases List.mem_cons.mp hd with rfl | hd
    · exact Sh.tuple fun d hd => by
        obtain ⟨c, _, rfl⟩ := List.mem_map.mp hd
        exact sh_pc c
    · cases hd
theorem tupd_pc (c : Pc) : tupd (pcD c) = true := by
  cases c <;> rfl
theorem tupd_path (p : Path) : tupd (pathD p) = true := by
  have h : tupdA (p.ps.map pcD) = true := tupdA_all.mpr fun d hd => by
    obtain ⟨c, _, rfl⟩ := List.mem_map.mp hd
    exact tupd_pc c
  show (tupd (pt p.s) && (tupdA (p.ps.map pcD) && true)) = true
  rw [h]
  rfl
theorem pc_inj {c d : Pc} (h : pcD c = pcD d) : c = d := by
  cases c with
  | side t =>
    cases d with
    | side u =>
      simp only [pcD] at h
      injection h with h
      injection h with _ h
      injection h with h _
      rw [pt_inj h]
    | arc _ _ _ =>
      simp only [pcD] at h
      injection h with h
      injection h with h _
      injection h with h
      exact absurd h (by decide +kernel)
  | arc m t l =>
    cases d with
    | side u =>
      simp only [pcD] at h
      injection h with h
      injection h with h _
      injection h with h
      exact absurd h (by decide +kernel)
    | arc m' t' l' =>
      simp only [pcD] at h
      injection h with h
      injection h with _ h
      injection h with h1 h
      injection h with h2 h
      injection h with h3 _
      injection h3 with h3
      rw [pt_inj h1, pt_inj h2]
      cases l <;> cases l' <;> first | rfl | exact absurd h3 (by decide +kernel)
theorem path_inj {p q : Path} (h : pathD p = pathD q) : p = q := by
  unfold pathD at h
  injection h with h
  injection h with h1 h
  injection h with h2 _
  injection h2 with h2
  obtain ⟨s, ps⟩ := p
  obtain ⟨t, qs⟩ := q
  have e1 : s = t := pt_inj h1
  have e2 : ps = qs := by
    have : ∀ (ps qs : List Pc), ps.map pcD = qs.map pcD → ps = qs := by
      intro ps
      induction ps with
      | nil => intro qs h; cases qs with
        | nil => rfl
        | cons _ _ => cases h
      | cons c ps ih =>
        intro qs h
        cases qs with
        | nil => cases h
        | cons d qs =>
          simp only [List.map_cons] at h
          injection h with h1 h2
          rw [pc_inj h1, ih qs h2]
    exact this ps qs h2
  rw [e1, e2]
end SC

set_option maxHeartbeats 4000000
/-! the program's paths.py: what is a path; ends, radii, headings -/
namespace SC
open PySem PySem.Spec PyProof.Rows L2 RZ
theorem q_ss : PyData.eqv (.str "side") (.str "side") = true := by decide +kernel
theorem q_as : PyData.eqv (.str "arc") (.str "side") = false := by decide +kernel
theorem q_aa : PyData.eqv (.str "arc") (.str "arc") = true := by decide +kernel
theorem q_ll : PyData.eqv (.str "left") (.str "left") = true := by decide +kernel
theorem q_rl : PyData.eqv (.str "right") (.str "left") = false := by decide +kernel
theorem h_side : SeqAt.shaped (.str "side") = true := by decide +kernel
theorem h_arc : SeqAt.shaped (.str "arc") = true := by decide +kernel
theorem h_left : SeqAt.shaped (.str "left") = true := by decide +kernel
theorem h_right : SeqAt.shaped (.str "right") = true := by decide +kernel
abbrev CSide (K : PySem.W.Frag) (mg : Str → Option Value) : Prop := CstK K mg "SIDE" (.str "side")
abbrev CArc (K : PySem.W.Frag) (mg : Str → Option Value) : Prop := CstK K mg "ARC" (.str "arc")
abbrev CTurns (K : PySem.W.Frag) (mg : Str → Option Value) : Prop := CstK K mg "TURNS" (.tuple [.str "left", .str "right"])
abbrev CN (K : PySem.W.Frag) (mg : Str → Option Value) : Prop := CstK K mg "NOUGHT_paths" (fr 0)
def PR_is_point : List PyData → PyData → Prop := fun ds d => ∃ p, ds = [pt p] ∧ d = .bool true
def PR_opposite : List PyData → PyData → Prop := fun ds d => ∃ p, ds = [pt p] ∧ SzP 4000 p ∧ d = pt (negP p)
def PR_is_side : List PyData → PyData → Prop := fun ds d => ∃ b pc, ds = [pt b, pcD pc] ∧ SzP 100 b ∧ SzPc 100 pc ∧ OkPc b pc ∧ d = .bool (match pc with | .side _ => true | .arc _ _ _ => false)
def PR_is_arc : List PyData → PyData → Prop := fun ds d => ∃ b m t l, ds = [pt b, pcD (.arc m t l)] ∧ SzP 100 b ∧ SzPc 100 (.arc m t l) ∧ OkPc b (.arc m t l) ∧ d = .bool true
def PR_is_piece : List PyData → PyData → Prop := fun ds d => ∃ b pc, ds = [pt b, pcD pc] ∧ SzP 100 b ∧ SzPc 100 pc ∧ OkPc b pc ∧ d = .bool true
def PR_to_of : List PyData → PyData → Prop := fun ds d => ∃ pc, ds = [pcD pc] ∧ d = pt pc.to
def PR_is_path : List PyData → PyData → Prop := fun ds d => ∃ p, ds = [pathD p] ∧ Ok p ∧ d = .bool true
def PR_ends_of : List PyData → PyData → Prop := fun ds d => ∃ p, ds = [pathD p] ∧ Ok p ∧ d = .list (endsL p)
def PR_is_closed : List PyData → PyData → Prop := fun ds d => ∃ p, ds = [pathD p] ∧ Ok p ∧ d = .bool (closed p)
def PR_begin_of : List PyData → PyData → Prop := fun ds d => ∃ p i, ds = [pathD p, .int ((i : Nat) : Int)] ∧ i < p.n ∧ d = pt (beginAt p i)
def PR_radius_of : List PyData → PyData → Prop := fun ds d => ∃ p i, ds = [pathD p, .int ((i : Nat) : Int)] ∧ Ok p ∧ i < p.n ∧ d = rad (pieceAt p i)
def PR_heading_at : List PyData → PyData → Prop := fun ds d => ∃ m t l q, ds = [pcD (.arc m t l), pt q] ∧ SzP 100 m ∧ SzP 100 q ∧ (∃ r : Rat, 0 < r ∧ r * r = dotP (psub q m) (psub q m)) ∧ d = pt (headAt m l q)
def PR_headings : List PyData → PyData → Prop := fun ds d => ∃ p i, ds = [pathD p, .int ((i : Nat) : Int)] ∧ Ok p ∧ i < p.n ∧ d = .tuple [pt (hB (beginAt p i) (pieceAt p i)), pt (hE (beginAt p i) (pieceAt p i))]
theorem atI_n1 {α : Type} {xs : List α} {v : α} {n : Nat} (hn : xs.length = n + 1) (h : xs[n]? = some v) : atI xs (-1) = some v := by
  unfold atI ixN
  rw [if_neg (by omega), if_pos (by rw [hn]; omega)]
  show xs[((-1 : Int) + (xs.length : Nat)).toNat]? = some v
  rw [show ((-1 : Int) + (xs.length : Nat)).toNat = n by rw [hn]; omega, h]
section
variable {P : Program} {w : World} {K : PySem.W.Frag} {mg : Str → Option Value} {base : Heap}
theorem kn_is_point (A : At K mg "is_point" s26) (f : Fr mg) (g : Kn P w K mg base "is_fraction" ["thing"] (spP K PR_is_fraction) 2) : Kn P w K mg base "is_point" ["thing"] (spP K PR_is_point) 3 := by
  refine def_ok A sc26 (by rintro _ _ ⟨a, rfl, _⟩; rfl) (fun _ _ _ _ _ _ us hl => match us, hl with | [_], _ => rfl) ?_
  rintro X rfl rfl rfl rfl rfl c he _ _ ⟨p, rfl, rfl⟩
  have cc := c.toCtx
  refine psd_ret (pd_andT (pd_isiT cc f.b_isinstance f.b_tuple boot_tuple (pd_var cc 0) k_tt) (pd_andT (pd_eqT cc (pd_lenT cc f.b_len (pd_var cc 0)) pd_int) (pd_one
    (pd_all (bs := [true, true]) cc f.b_all (PD.eq (pd_lc cc [("part", 1)] (fun d ρ => ρ.set 1 (some d)) (fun _ => true) (fun _ => .bool true) (by decide +kernel) (pdi_tup (pd_var cc 0)) (by exact Nat.le_of_ble_eq_true rfl) (fun _ _ _ => rfl)
      (fun X' _ c' => pg_blk c' 1) (fun d _ => gd_name (by decide)) (fun X' _ c' d _ => pdts_nil) (fun X' hX c' d hd _ => ?_)) rfl))))) rfl
  have : ∃ q, d = fr q := by
    rcases List.mem_cons.mp hd with rfl | hd
    · exact ⟨_, rfl⟩
    · rcases List.mem_cons.mp hd with rfl | hd
      · exact ⟨_, rfl⟩
      · cases hd
  obtain ⟨q, rfl⟩ := this
  exact pd_call c' (g.blkP hX.same) (pda_cons (pd_var c' 1) pda_nil) ⟨q, rfl, rfl⟩
theorem kn_opposite (A : At K mg "opposite" s27) (C : CN K mg) (g : Kn P w K mg base "minus" ["one", "other"] (spP K PR_minus) 4) : Kn P w K mg base "opposite" ["vector"] (spP K PR_opposite) 5 := by
  refine def_ok A sc27 (by rintro _ _ ⟨a, rfl, _⟩; rfl) (fun _ _ _ _ _ _ us hl => match us, hl with | [_], _ => rfl) ?_
  rintro X rfl rfl rfl rfl rfl c he _ _ ⟨p, rfl, hp, rfl⟩
  have cc := c.toCtx
  refine psd_ret (pd_call cc g (pda_cons (pd_tup (pda_cons (pd_glob cc C) (pda_cons (pd_glob cc C) pda_nil))) (pda_cons (pd_var cc 0) pda_nil)) ⟨(0, 0), p, rfl, ⟨Sz.zero (a := 3999), Sz.zero (a := 3999)⟩, hp, rfl⟩) ?_
  show pt (0 - p.1, 0 - p.2) = pt (-p.1, -p.2)
  rw [show (0 : Rat) - p.1 = -p.1 by grind, show (0 : Rat) - p.2 = -p.2 by grind]
theorem kn_is_side (A : At K mg "is_side" s28) (f : Fr mg) (C : CSide K mg) (g1 : Kn P w K mg base "is_point" ["thing"] (spP K PR_is_point) 3) (g2 : Kn P w K mg base "length_of" ["vector"] (spP K PR_length_of) 5) (g3 : Kn P w K mg base "minus" ["one", "other"] (spP K PR_minus) 4) :
    Kn P w K mg base "is_side" ["begin", "thing"] (spP K PR_is_side) 6 := by
  refine def_ok A sc28 (by rintro _ _ ⟨a, b, rfl, _⟩; rfl) (fun _ _ _ _ _ _ us hl => match us, hl with | [_, _], _ => rfl) ?_
  rintro X rfl rfl rfl rfl rfl c he _ _ ⟨b, pc, rfl, hb, hs, ho, rfl⟩
  have cc := c.toCtx
  cases pc with
  | side t =>
    obtain ⟨hne, r, h0, hr⟩ := ho
    have ht : SzP 100 t := hs
    refine psd_skip (pdt_w (pw_orF (pdt_neF cc (pd_lenT cc f.b_len (pd_var cc 1)) pd_int) (pw_orF (pdt_neF cc (pd_ixT (pd_var cc 1) pd_int) (pd_glob cc C) q_ss h_side h_side)
      (pw_orF (pt_nT (pdt_val (pd_call cc g1 (pda_cons (pd_ixT (pd_var cc 1) pd_int) pda_nil) ⟨_, rfl, rfl⟩))) (pdw_or1 (pdt_eqF cc (pd_ixT (pd_var cc 1) pd_int) (pd_var cc 0) (by rw [eqv_pt, decide_eq_false hne]))))))) ?_
    exact psd_ret (pd_notNT (pd_call cc g2 (pda_cons (pd_call cc g3 (pda_cons (pd_ixT (pd_var cc 1) pd_int) (pda_cons (pd_var cc 0) pda_nil)) ⟨_, _, rfl, ht.mono (by decide), hb.mono (by decide), rfl⟩) pda_nil)
      ⟨_, r, rfl, (ht.sub hb).mono (by decide), Rat.le_of_lt h0, hr, rfl⟩) pd_non) rfl
  | arc m t l => exact psd_ifT (pdt_w (pw_orT (pdt_neT cc (pd_lenT cc f.b_len (pd_var cc 1)) pd_int))) (psd_ret pd_bl rfl)
theorem inV_left (l : Bool) : (!inV (.str (turnS l)) ([("left" : Str), "right"].map V.str)) = false := by
  cases l <;> decide +kernel
theorem kn_is_arc (A : At K mg "is_arc" s29) (f : Fr mg) (C : CArc K mg) (CT : CTurns K mg) (CZ : CN K mg) (g1 : Kn P w K mg base "is_point" ["thing"] (spP K PR_is_point) 3) (g2 : Kn P w K mg base "length_of" ["vector"] (spP K PR_length_of) 5) (g3 : Kn P w K mg base "minus" ["one", "other"] (spP K PR_minus) 4) :
    Kn P w K mg base "is_arc" ["begin", "thing"] (spP K PR_is_arc) 6 := by
  refine def_ok A sc29 (by rintro _ _ ⟨a, b, _, _, rfl, _⟩; rfl) (fun _ _ _ _ _ _ us hl => match us, hl with | [_, _], _ => rfl) ?_
  rintro X rfl rfl rfl rfl rfl c he _ _ ⟨b, m, t, l, rfl, hb, hs, ho, rfl⟩
  have cc := c.toCtx
  obtain ⟨hne, r, h0, hr, hr2⟩ := ho
  obtain ⟨hm, ht⟩ := hs
  refine psd_skip (pdt_w (pw_orF (pdt_neF cc (pd_lenT cc f.b_len (pd_var cc 1)) pd_int) (pw_orF (pdt_neF cc (pd_ixT (pd_var cc 1) pd_int) (pd_glob cc C) q_aa h_arc h_arc)
    (pw_orF (pt_nT (pdt_val (pd_call cc g1 (pda_cons (pd_ixT (pd_var cc 1) pd_int) pda_nil) ⟨_, rfl, rfl⟩))) (pdw_or1 (pt_nT (pdt_val (pd_call cc g1 (pda_cons (pd_ixT (pd_var cc 1) pd_int) pda_nil) ⟨_, rfl, rfl⟩)))))))) ?_
  refine psd_skip (pdt_w (pw_orF (pt_nT (pdt_val (pd_isiS cc f.b_isinstance f.b_str boot_str (pd_ixT (pd_var cc 1) pd_int) k_ss))) (pw_orF (PDT.eq (pdt_niT (xs := ["left", "right"]) (pd_ixT (pd_var cc 1) pd_int) (pd_glob cc CT)) (inV_left l))
    (pdw_or1 (pdt_eqF cc (pd_ixT (pd_var cc 1) pd_int) (pd_var cc 0) (by rw [eqv_pt, decide_eq_false hne])))))) ?_
  refine psd_set c 2 (pd_call cc g2 (pda_cons (pd_call cc g3 (pda_cons (pd_var cc 0) (pda_cons (pd_ixT (pd_var cc 1) pd_int) pda_nil)) ⟨_, _, rfl, hb.mono (by decide), hm.mono (by decide), rfl⟩) pda_nil)
      ⟨_, r, rfl, (hb.sub hm).mono (by decide), Rat.le_of_lt h0, hr, rfl⟩) ?_
  exact psd_ret (pd_andT (pd_notNT (pd_var cc 2) pd_non) (pd_andT (pd_neT cc (pd_var cc 2) (pd_glob cc CZ) (by rw [eqv_fr]; exact decide_eq_false (Rat.ne_of_gt h0)))
    (pd_one (pd_eqT cc (pd_call cc g2 (pda_cons (pd_call cc g3 (pda_cons (pd_ixT (pd_var cc 1) pd_int) (pda_cons (pd_ixT (pd_var cc 1) pd_int) pda_nil)) ⟨_, _, rfl, ht.mono (by decide), hm.mono (by decide), rfl⟩) pda_nil)
      ⟨_, r, rfl, (ht.sub hm).mono (by decide), Rat.le_of_lt h0, hr2, rfl⟩) (pd_var cc 2) (eqv_rf _ rfl))))) rfl
theorem kn_is_piece (A : At K mg "is_piece" s30) (f : Fr mg) (g1 : Kn P w K mg base "is_side" ["begin", "thing"] (spP K PR_is_side) 6) (g2 : Kn P w K mg base "is_arc" ["begin", "thing"] (spP K PR_is_arc) 6) :
    Kn P w K mg base "is_piece" ["begin", "thing"] (spP K PR_is_piece) 7 := by
  refine def_ok A sc30 (by rintro _ _ ⟨a, b, rfl, _⟩; rfl) (fun _ _ _ _ _ _ us hl => match us, hl with | [_, _], _ => rfl) ?_
  rintro X rfl rfl rfl rfl rfl c he _ _ ⟨b, pc, rfl, hb, hs, ho, rfl⟩
  have cc := c.toCtx
  cases pc with
  | side t =>
    refine psd_skip (pdt_w (pw_orF (pt_nT (pdt_val (pd_isiT cc f.b_isinstance f.b_tuple boot_tuple (pd_var cc 1) k_tt))) (pw_orF (pdt_eqF cc (pd_lenT cc f.b_len (pd_var cc 1)) pd_int) (pdw_or1 (pt_nT (pdt_val (pd_isiS cc f.b_isinstance f.b_str boot_str (pd_ixT (pd_var cc 1) pd_int) k_ss))))))) ?_
    exact psd_ret (pd_orT (pd_call cc g1 (pda_cons (pd_var cc 0) (pda_cons (pd_var cc 1) pda_nil)) ⟨_, .side t, rfl, hb, hs, ho, rfl⟩)) rfl
  | arc m t l =>
    refine psd_skip (pdt_w (pw_orF (pt_nT (pdt_val (pd_isiT cc f.b_isinstance f.b_tuple boot_tuple (pd_var cc 1) k_tt))) (pw_orF (pdt_eqF cc (pd_lenT cc f.b_len (pd_var cc 1)) pd_int) (pdw_or1 (pt_nT (pdt_val (pd_isiS cc f.b_isinstance f.b_str boot_str (pd_ixT (pd_var cc 1) pd_int) k_ss))))))) ?_
    exact psd_ret (pd_orF (pd_call cc g1 (pda_cons (pd_var cc 0) (pda_cons (pd_var cc 1) pda_nil)) ⟨_, .arc m t l, rfl, hb, hs, ho, rfl⟩) (pd_one (pd_call cc g2 (pda_cons (pd_var cc 0) (pda_cons (pd_var cc 1) pda_nil)) ⟨_, m, t, l, rfl, hb, hs, ho, rfl⟩))) rfl
theorem kn_to_of (A : At K mg "to_of" s31) (C : CSide K mg) : Kn P w K mg base "to_of" ["piece"] (spP K PR_to_of) 1 := by
  refine def_ok A sc31 (by rintro _ _ ⟨a, rfl, _⟩; rfl) (fun _ _ _ _ _ _ us hl => match us, hl with | [_], _ => rfl) ?_
  rintro X rfl rfl rfl rfl rfl c he _ _ ⟨pc, rfl, rfl⟩
  have cc := c.toCtx
  cases pc with
  | side t => exact psd_ret (pd_ifT (pdt_eqT cc (pd_ixT (pd_var cc 0) pd_int) (pd_glob cc C) q_ss h_side h_side) (pd_ixT (pd_var cc 0) pd_int)) rfl
  | arc m t l => exact psd_ret (pd_ifF (pdt_eqF cc (pd_ixT (pd_var cc 0) pd_int) (pd_glob cc C) q_as h_arc h_side) (pd_ixT (pd_var cc 0) pd_int)) rfl
theorem kn_is_path (A : At K mg "is_path" s32) (f : Fr mg) (g1 : Kn P w K mg base "is_point" ["thing"] (spP K PR_is_point) 3) (g2 : Kn P w K mg base "is_piece" ["begin", "thing"] (spP K PR_is_piece) 7) (g3 : Kn P w K mg base "to_of" ["piece"] (spP K PR_to_of) 1) :
    Kn P w K mg base "is_path" ["thing"] (spP K PR_is_path) 8 := by
  refine def_ok A sc32 (by rintro _ _ ⟨a, rfl, _⟩; rfl) (fun _ _ _ _ _ _ us hl => match us, hl with | [_], _ => rfl) ?_
  rintro X rfl rfl rfl rfl rfl c he _ _ ⟨p, rfl, hp, rfl⟩
  have cc := c.toCtx
  refine psd_skip (pdt_w (pw_orF (pt_nT (pdt_val (pd_isiT cc f.b_isinstance f.b_tuple boot_tuple (pd_var cc 0) k_tt))) (pw_orF (pdt_neF cc (pd_lenT cc f.b_len (pd_var cc 0)) pd_int) (pdw_or1 (pt_nT (pdt_val (pd_call cc g1 (pda_cons (pd_ixT (pd_var cc 0) pd_int) pda_nil) ⟨_, rfl, rfl⟩))))))) ?_
  refine psd_skip (pdt_w (pw_orF (pt_nT (pdt_val (pd_isiT cc f.b_isinstance f.b_tuple boot_tuple (pd_ixT (pd_var cc 0) pd_int) k_tt))) (pdw_or1 (pdt_eqF cc (pd_lenT cc f.b_len (pd_ixT (pd_var cc 0) pd_int)) pd_int ?_)))) ?_
  · refine eqv_ne rfl rfl fun z => ?_
    injection z with z
    have := hp.pos
    have e : (p.ps.map pcD).length = p.n := by simp [Path.n]
    rw [e] at z
    omega
  refine psd_set c 1 (pd_ixT (pd_var cc 0) pd_int) ?_
  have hlen : (p.ps.map pcD).length = p.n := by simp [Path.n]
  refine psd_for c (fun d ρ => ρ.set 2 (some d)) [2] (fun i ρ => i ≤ p.n ∧ ∃ z, ρ = [some (pathD p), some (pt (beginAt p i)), z]) (pdi_tup (pd_ixT (pd_var cc 0) pd_int)) (pg_of c 2) (fun d _ => gd_name (by decide)) ⟨Nat.zero_le _, _, rfl⟩ ?_ ?_
  · rintro i d _ hd ⟨hi, z, rfl⟩
    have hlt : i < p.n := by
      have := (List.getElem?_eq_some_iff.mp hd).1
      omega
    rw [pieceD_get hlt] at hd
    cases hd
    refine psd_skip (pt_nT (pdt_val (pd_call cc g2 (pda_cons (pd_var cc 1) (pda_cons (pd_var cc 2) pda_nil)) ⟨_, _, rfl, hp.sb hi, hp.sp i hlt, hp.ok i hlt, rfl⟩))) ?_
    exact psd_set c 1 (pd_call cc g3 (pda_cons (pd_var cc 2) pda_nil) ⟨_, rfl, rfl⟩) (psd_nil ⟨hlt, _, rfl⟩)
  · rintro _ ⟨_, z, rfl⟩
    exact psd_ret pd_bl rfl
theorem endsL_eq (p : Path) : endsL p = [pt p.s] ++ p.ps.map fun c => pt c.to := by
  unfold endsL
  apply List.ext_getElem?
  intro i
  rw [List.getElem?_map]
  by_cases hi : i < p.n + 1
  · rw [List.getElem?_range hi]
    cases i with
    | zero => rfl
    | succ i =>
      rw [List.getElem?_append_right (by simp), List.getElem?_map]
      show _ = Option.map _ p.ps[i]?
      rw [piece_get (by omega)]
      rfl
  · rw [List.getElem?_eq_none (by simp; omega), List.getElem?_eq_none (by simp [Path.n] at hi ⊢; omega)]
    rfl
theorem kn_ends_of (A : At K mg "ends_of" s33) (g : Kn P w K mg base "to_of" ["piece"] (spP K PR_to_of) 1) : Kn P w K mg base "ends_of" ["path"] (spP K PR_ends_of) 2 := by
  refine def_ok A sc33 (by rintro _ _ ⟨a, rfl, _⟩; rfl) (fun _ _ _ _ _ _ us hl => match us, hl with | [_], _ => rfl) ?_
  rintro X rfl rfl rfl rfl rfl c he _ _ ⟨p, rfl, hp, rfl⟩
  have cc := c.toCtx
  have hlen : (p.ps.map pcD).length ≤ 1000 := by
    rw [List.length_map]
    exact Nat.le_trans hp.len (by decide)
  have key : ∀ ps : List Pc, ∃ v : PyData → PyData, (∀ c, v (pcD c) = pt c.to) := fun _ => ⟨fun d => match d with
    | .tuple [_, t] => t
    | .tuple [_, _, t, _] => t
    | d => d, fun c => by cases c <;> rfl⟩
  obtain ⟨v, hv⟩ := key []
  refine psd_ret (pd_catL (pd_lst (pda_cons (pd_ixT (pd_var cc 0) pd_int) pda_nil)) (pd_lc cc [("piece", 1)] (fun d ρ => ρ.set 1 (some d)) (fun _ => true) v (by decide +kernel) (pdi_tup (pd_ixT (pd_var cc 0) pd_int)) (Nat.le_trans hlen (by decide)) (fun d hd _ => ?_)
      (fun X' _ c' => pg_blk c' 1) (fun d _ => gd_name (by decide)) (fun X' _ c' d _ => pdts_nil) (fun X' hX c' d hd _ => ?_)) ?_) ?_
  · obtain ⟨c0, _, rfl⟩ := List.mem_map.mp hd
    rw [hv]
    rfl
  · obtain ⟨c0, _, rfl⟩ := List.mem_map.mp hd
    rw [hv]
    exact pd_call c' (g.blkP hX.same) (pda_cons (pd_var c' 1) pda_nil) ⟨c0, rfl, rfl⟩
  · rw [List.length_map]
    have := List.length_filter_le (fun _ => true) (p.ps.map pcD)
    simp only [List.length_cons, List.length_nil]
    omega
  · rw [endsL_eq, List.filter_eq_self.mpr (fun _ _ => rfl), List.map_map]
    congr 3
    funext c0
    exact hv c0
theorem kn_is_closed (A : At K mg "is_closed" s34) (g : Kn P w K mg base "to_of" ["piece"] (spP K PR_to_of) 1) : Kn P w K mg base "is_closed" ["path"] (spP K PR_is_closed) 2 := by
  refine def_ok A sc34 (by rintro _ _ ⟨a, rfl, _⟩; rfl) (fun _ _ _ _ _ _ us hl => match us, hl with | [_], _ => rfl) ?_
  rintro X rfl rfl rfl rfl rfl c he _ _ ⟨p, rfl, hp, rfl⟩
  have cc := c.toCtx
  have h0 := hp.pos
  have hb : beginAt p p.n = (pieceAt p (p.n - 1)).to := by
    unfold beginAt
    rw [if_neg (by omega)]
  refine psd_ret (pd_eq cc (pd_call cc g (pda_cons (pd_ixT (pd_ixT (pd_var cc 0) pd_int) (pd_neg pd_int) (atI_n1 (n := p.n - 1) (by simp [Path.n] at h0 ⊢; omega) (pieceD_get (by omega)))) pda_nil) ⟨_, rfl, rfl⟩) (pd_ixT (pd_var cc 0) pd_int) ?_ rfl rfl) rfl
  rw [eqv_pt]
  unfold closed
  rw [hb]
theorem kn_begin_of (A : At K mg "begin_of" s35) (g : Kn P w K mg base "to_of" ["piece"] (spP K PR_to_of) 1) : Kn P w K mg base "begin_of" ["path", "number"] (spP K PR_begin_of) 2 := by
  refine def_ok A sc35 (by rintro _ _ ⟨a, i, rfl, _⟩; rfl) (fun _ _ _ _ _ _ us hl => match us, hl with | [_, _], _ => rfl) ?_
  rintro X rfl rfl rfl rfl rfl c he _ _ ⟨p, i, rfl, hi, rfl⟩
  have cc := c.toCtx
  cases i with
  | zero => exact psd_ret (pd_ifT (pdt_eqT cc (pd_var cc 1) pd_int) (pd_ixT (pd_var cc 0) pd_int)) rfl
  | succ i =>
    refine psd_ret (pd_ifF (pdt_eqF cc (pd_var cc 1) pd_int ?_) (pd_call cc g (pda_cons (pd_ixT (pd_ixT (pd_var cc 0) pd_int) (pd_sub (pd_var cc 1) pd_int) ?_) pda_nil) ⟨pieceAt p i, rfl, rfl⟩)) rfl
    · refine eqv_ne rfl rfl fun z => ?_
      injection z with z
      omega
    · rw [show ((i + 1 : Nat) : Int) - 1 = (i : Nat) by omega]
      exact atI_nat (pieceD_get (by omega))
theorem kn_radius_of (A : At K mg "radius_of" s36) (C : CSide K mg) (g2 : Kn P w K mg base "length_of" ["vector"] (spP K PR_length_of) 5) (g3 : Kn P w K mg base "minus" ["one", "other"] (spP K PR_minus) 4) : Kn P w K mg base "radius_of" ["path", "number"] (spP K PR_radius_of) 6 := by
  refine def_ok A sc36 (by rintro _ _ ⟨a, i, rfl, _⟩; rfl) (fun _ _ _ _ _ _ us hl => match us, hl with | [_, _], _ => rfl) ?_
  rintro X rfl rfl rfl rfl rfl c he _ _ ⟨p, i, rfl, hp, hi, rfl⟩
  have cc := c.toCtx
  refine psd_set c 2 (pd_ixT (pd_ixT (pd_var cc 0) pd_int) (pd_var cc 1) (atI_nat (pieceD_get hi))) ?_
  have ho := hp.ok i hi
  have hs := hp.sp i hi
  generalize pieceAt p i = pc at ho hs ⊢
  cases pc with
  | side t => exact psd_ifT (pdt_eqT cc (pd_ixT (pd_var cc 2) pd_int) (pd_glob cc C) q_ss h_side h_side) (psd_ret pd_non rfl)
  | arc m t l =>
    obtain ⟨hne, r, h0, hr, hr2⟩ := ho
    obtain ⟨hm, ht⟩ := hs
    refine psd_skip (pdt_eqF cc (pd_ixT (pd_var cc 2) pd_int) (pd_glob cc C) q_as h_arc h_side) ?_
    refine psd_ret (pd_call cc g2 (pda_cons (pd_call cc g3 (pda_cons (pd_ixT (pd_var cc 2) pd_int) (pda_cons (pd_ixT (pd_var cc 2) pd_int) pda_nil)) ⟨_, _, rfl, ht.mono (by decide), hm.mono (by decide), rfl⟩) pda_nil)
      ⟨_, r, rfl, (ht.sub hm).mono (by decide), Rat.le_of_lt h0, hr2, rfl⟩) ?_
    show fr r = fr (lenP (psub t m))
    rw [lenP_eq (Rat.le_of_lt h0) hr2]
theorem kn_heading_at (A : At K mg "heading_at" s37) (C : CTurns K mg) (g1 : Kn P w K mg base "left_of" ["vector"] (spP K PR_left_of) 4) (g2 : Kn P w K mg base "unit_of" ["vector"] (spP K PR_unit_of) 6) (g3 : Kn P w K mg base "minus" ["one", "other"] (spP K PR_minus) 4) (g4 : Kn P w K mg base "opposite" ["vector"] (spP K PR_opposite) 5) :
    Kn P w K mg base "heading_at" ["piece", "point"] (spP K PR_heading_at) 7 := by
  refine def_ok A sc37 (by rintro _ _ ⟨a, i, _, _, rfl, _⟩; rfl) (fun _ _ _ _ _ _ us hl => match us, hl with | [_, _], _ => rfl) ?_
  rintro X rfl rfl rfl rfl rfl c he _ _ ⟨m, t, l, q, rfl, hm, hq, ⟨r, h0, hr⟩, rfl⟩
  have cc := c.toCtx
  have hv := hq.sub hm
  have hu : SzP 4000 (divP (psub q m) r) := (hv.div (hv.len hr) h0).mono (by decide)
  refine psd_set c 2 (pd_call cc g1 (pda_cons (pd_call cc g2 (pda_cons (pd_call cc g3 (pda_cons (pd_var cc 1) (pda_cons (pd_ixT (pd_var cc 0) pd_int) pda_nil)) ⟨_, _, rfl, hq.mono (by decide), hm.mono (by decide), rfl⟩) pda_nil)
      ⟨_, r, rfl, hv.mono (by decide), h0, hr, rfl⟩) pda_nil) ⟨_, rfl, hu, rfl⟩) ?_
  have e : unitP (psub q m) = divP (psub q m) r := by
    unfold unitP
    rw [lenP_eq (Rat.le_of_lt h0) hr]
  cases l with
  | true =>
    refine psd_ret (pd_ifT (pdt_eqT cc (pd_ixT (pd_var cc 0) pd_int) (pd_ixT (pd_glob cc C) pd_int) q_ll h_left h_left) (pd_var cc 2)) ?_
    unfold headAt
    rw [if_pos rfl, e]
  | false =>
    refine psd_ret (pd_ifF (pdt_eqF cc (pd_ixT (pd_var cc 0) pd_int) (pd_ixT (pd_glob cc C) pd_int) q_rl h_right h_left) (pd_call cc g4 (pda_cons (pd_var cc 2) pda_nil) ⟨_, rfl, hu.left, rfl⟩)) ?_
    unfold headAt
    rw [if_neg (by decide), e]
theorem kn_headings (A : At K mg "headings" s38) (C : CSide K mg) (g1 : Kn P w K mg base "begin_of" ["path", "number"] (spP K PR_begin_of) 2) (g2 : Kn P w K mg base "unit_of" ["vector"] (spP K PR_unit_of) 6) (g3 : Kn P w K mg base "minus" ["one", "other"] (spP K PR_minus) 4) (g4 : Kn P w K mg base "heading_at" ["piece", "point"] (spP K PR_heading_at) 7) :
    Kn P w K mg base "headings" ["path", "number"] (spP K PR_headings) 8 := by
  refine def_ok A sc38 (by rintro _ _ ⟨a, i, rfl, _⟩; rfl) (fun _ _ _ _ _ _ us hl => match us, hl with | [_, _], _ => rfl) ?_
  rintro X rfl rfl rfl rfl rfl c he _ _ ⟨p, i, rfl, hp, hi, rfl⟩
  have cc := c.toCtx
  refine psd_set c 2 (pd_ixT (pd_ixT (pd_var cc 0) pd_int) (pd_var cc 1) (atI_nat (pieceD_get hi))) ?_
  refine psd_set c 3 (pd_call cc g1 (pda_cons (pd_var cc 0) (pda_cons (pd_var cc 1) pda_nil)) ⟨p, i, rfl, hi, rfl⟩) ?_
  have ho := hp.ok i hi
  have hs := hp.sp i hi
  have hb := hp.sb (Nat.le_of_lt hi)
  generalize pieceAt p i = pc at ho hs ⊢
  generalize beginAt p i = b at ho hb ⊢
  cases pc with
  | side t =>
    obtain ⟨hne, r, h0, hr⟩ := ho
    have ht : SzP 100 t := hs
    refine psd_ifT (pdt_eqT cc (pd_ixT (pd_var cc 2) pd_int) (pd_glob cc C) q_ss h_side h_side) ?_
    refine psd_set c 4 (pd_call cc g2 (pda_cons (pd_call cc g3 (pda_cons (pd_ixT (pd_var cc 2) pd_int) (pda_cons (pd_var cc 3) pda_nil)) ⟨_, _, rfl, ht.mono (by decide), hb.mono (by decide), rfl⟩) pda_nil) ⟨_, r, rfl, (ht.sub hb).mono (by decide), h0, hr, rfl⟩) ?_
    refine psd_ret (pd_tup (pda_cons (pd_var cc 4) (pda_cons (pd_var cc 4) pda_nil))) ?_
    show _ = PyData.tuple [pt (unitP (psub t b)), pt (unitP (psub t b))]
    unfold unitP
    rw [lenP_eq (Rat.le_of_lt h0) hr]
  | arc m t l =>
    obtain ⟨hne, r, h0, hr, hr2⟩ := ho
    obtain ⟨hm, ht⟩ := hs
    refine psd_skip (pdt_eqF cc (pd_ixT (pd_var cc 2) pd_int) (pd_glob cc C) q_as h_arc h_side) ?_
    exact psd_ret (pd_tup (pda_cons (pd_call cc g4 (pda_cons (pd_var cc 2) (pda_cons (pd_var cc 3) pda_nil)) ⟨m, t, l, _, rfl, hm, hb, ⟨r, h0, hr⟩, rfl⟩)
      (pda_cons (pd_call cc g4 (pda_cons (pd_var cc 2) (pda_cons (pd_ixT (pd_var cc 2) pd_int) pda_nil)) ⟨m, t, l, _, rfl, hm, ht, ⟨r, h0, hr2⟩, rfl⟩) pda_nil))) rfl
end
end SC

set_option maxHeartbeats 4000000
/-! the program's paths.py: corners, paths put otherwise -/
namespace SC
open PySem PySem.Spec PyProof.Rows L2 RZ
theorem sz_unit {n m : Nat} {a b : Pt} (ha : SzP n a) (hb : SzP m b) {r : Rat} (h0 : 0 < r) (hr : r * r = dotP (psub a b) (psub a b)) : SzP (5 * (n + m + 1) + 1) (unitP (psub a b)) := by
  unfold unitP
  rw [lenP_eq (Rat.le_of_lt h0) hr]
  have hv := ha.sub hb
  exact (hv.div (hv.len hr) h0).mono (by omega)
theorem sz_headAt {n : Nat} {m q : Pt} {l : Bool} (h : SzP n (unitP (psub q m))) : SzP n (headAt m l q) := by
  unfold headAt
  split
  · exact h.left
  · exact h.left.neg
theorem sz_hB {b : Pt} {pc : Pc} (hb : SzP 100 b) (hs : SzPc 100 pc) (ho : OkPc b pc) : SzP 1900 (hB b pc) := by
  cases pc with
  | side t =>
    obtain ⟨hne, r, h0, hr⟩ := ho
    exact (sz_unit (show SzP 100 t from hs) hb h0 hr).mono (by decide)
  | arc m t l =>
    obtain ⟨hne, r, h0, hr, hr2⟩ := ho
    exact (sz_headAt (sz_unit hb hs.1 h0 hr)).mono (by decide)
theorem sz_hE {b : Pt} {pc : Pc} (hb : SzP 100 b) (hs : SzPc 100 pc) (ho : OkPc b pc) : SzP 1900 (hE b pc) := by
  cases pc with
  | side t =>
    obtain ⟨hne, r, h0, hr⟩ := ho
    exact (sz_unit (show SzP 100 t from hs) hb h0 hr).mono (by decide)
  | arc m t l =>
    obtain ⟨hne, r, h0, hr, hr2⟩ := ho
    exact (sz_headAt (sz_unit hs.2 hs.1 h0 hr2)).mono (by decide)
noncomputable def onD {α : Type} (enc : α → PyData) (f : α → PyData) (d : PyData) : PyData := open Classical in if h : ∃ a, d = enc a then f (Classical.choose h) else d
theorem onD_eq {α : Type} {enc : α → PyData} {f : α → PyData} (inj : ∀ a b, enc a = enc b → a = b) (a : α) : onD enc f (enc a) = f a := by
  have h : ∃ b, enc a = enc b := ⟨a, rfl⟩
  unfold onD
  rw [dif_pos h, ← inj _ _ (Classical.choose_spec h)]
def PR_corner_word : List PyData → PyData → Prop := fun ds d => ∃ u v, ds = [pt u, pt v] ∧ SzP 1900 u ∧ SzP 1900 v ∧ d = .str (word u v)
def PR_corners : List PyData → PyData → Prop := fun ds d => ∃ p, ds = [pathD p] ∧ Ok p ∧ d = .list (cornersL p)
def PR_other_turn : List PyData → PyData → Prop := fun ds d => ∃ l, ds = [.str (turnS l)] ∧ d = .str (turnS (!l))
def PR_turned_about : List PyData → PyData → Prop := fun ds d => ∃ p, ds = [pathD p] ∧ Ok p ∧ d = pathD (turned p)
def PR_mirrored_point : List PyData → PyData → Prop := fun ds d => ∃ p, ds = [pt p] ∧ d = pt (mirP p)
def PR_mirrored_piece : List PyData → PyData → Prop := fun ds d => ∃ c, ds = [pcD c] ∧ d = pcD (mirPc c)
def PR_mirrored : List PyData → PyData → Prop := fun ds d => ∃ p, ds = [pathD p] ∧ Ok p ∧ d = pathD (mir p)
def PR_moved_piece : List PyData → PyData → Prop := fun ds d => ∃ c v, ds = [pcD c, pt v] ∧ SzPc 100 c ∧ SzP 1000 v ∧ d = pcD (movPc v c)
def PR_moved : List PyData → PyData → Prop := fun ds d => ∃ p v, ds = [pathD p, pt v] ∧ Ok p ∧ SzP 1000 v ∧ d = pathD (mov p v)
theorem cornersTo_succ (p : Path) (n : Nat) : cornersTo p (n + 1) = if (decide (0 < n) || closed p) = true then cornersTo p n ++ [cD n (cw p n)] else cornersTo p n := by
  unfold cornersTo
  rw [List.range_succ, List.filter_append, List.map_append]
  by_cases h : (decide (0 < n) || closed p) = true
  · rw [if_pos h]
    congr 1
    simp [List.filter, h]
  · rw [if_neg h]
    simp [List.filter, h]
theorem cornersTo_len (p : Path) (n : Nat) : (cornersTo p n).length ≤ n := by
  unfold cornersTo
  rw [List.length_map]
  have := List.length_filter_le (fun j => decide (0 < j) || closed p) (List.range n)
  rw [List.length_range] at this
  exact this
section
variable {P : Program} {w : World} {K : PySem.W.Frag} {mg : Str → Option Value} {base : Heap}
theorem kn_corner_word (A : At K mg "corner_word" s39) (C : CN K mg) (g1 : Kn P w K mg base "compared" ["one", "other"] (spP K PR_compared) 1) (g2 : Kn P w K mg base "cross" ["one", "other"] (spP K PR_cross) 4) :
    Kn P w K mg base "corner_word" ["ahead", "behind"] (spP K PR_corner_word) 5 := by
  refine def_ok A sc39 (by rintro _ _ ⟨a, b, rfl, _⟩; rfl) (fun _ _ _ _ _ _ us hl => match us, hl with | [_, _], _ => rfl) ?_
  rintro X rfl rfl rfl rfl rfl c he _ _ ⟨u, v, rfl, hu, hv, rfl⟩
  have cc := c.toCtx
  by_cases e : u = v
  · subst e
    refine psd_ifT (pdt_eqT cc (pd_var cc 0) (pd_var cc 1) (eqv_rf _ rfl)) (psd_ret pd_str ?_)
    unfold word
    rw [if_pos rfl]
  · refine psd_skip (pdt_eqF cc (pd_var cc 0) (pd_var cc 1) (by rw [eqv_pt, decide_eq_false e])) ?_
    refine psd_set c 2 (pd_call cc g1 (pda_cons (pd_call cc g2 (pda_cons (pd_var cc 0) (pda_cons (pd_var cc 1) pda_nil)) ⟨_, _, rfl, hu, hv, rfl⟩) (pda_cons (pd_glob cc C) pda_nil)) ⟨_, _, rfl, (hu.cross hv).mono (by decide), Sz.zero (a := 8999), rfl⟩) ?_
    unfold word sgn
    rw [if_neg e]
    by_cases h1 : 0 < crossP u v
    · rw [if_pos h1, if_pos h1]
      exact psd_ret (pd_ixL (pd_lst (pda_cons pd_str (pda_cons pd_str (pda_cons pd_str pda_nil)))) (pd_var cc 2)) rfl
    · rw [if_neg h1, if_neg h1]
      by_cases h2 : crossP u v < 0
      · rw [if_pos h2, if_pos h2]
        exact psd_ret (pd_ixL (pd_lst (pda_cons pd_str (pda_cons pd_str (pda_cons pd_str pda_nil)))) (pd_var cc 2)) rfl
      · rw [if_neg h2, if_neg h2]
        exact psd_ret (pd_ixL (pd_lst (pda_cons pd_str (pda_cons pd_str (pda_cons pd_str pda_nil)))) (pd_var cc 2)) rfl
theorem lenD (p : Path) : (p.ps.map pcD).length = p.n := by simp [Path.n]
theorem kn_corners (A : At K mg "corners" s40) (f : Fr mg) (g1 : Kn P w K mg base "is_closed" ["path"] (spP K PR_is_closed) 2) (g2 : Kn P w K mg base "headings" ["path", "number"] (spP K PR_headings) 8) (g3 : Kn P w K mg base "corner_word" ["ahead", "behind"] (spP K PR_corner_word) 5) :
    Kn P w K mg base "corners" ["path"] (spP K PR_corners) 9 := by
  refine def_ok A sc40 (by rintro _ _ ⟨a, rfl, _⟩; rfl) (fun _ _ _ _ _ _ us hl => match us, hl with | [_], _ => rfl) ?_
  rintro X rfl rfl rfl rfl rfl c he _ _ ⟨p, rfl, hp, rfl⟩
  have cc := c.toCtx
  have hn := hp.len
  refine psd_build c 1 2 (cornersTo p) rfl (pda_range (n := p.n) cc f.b_range (PD.eq (pd_lenT cc f.b_len (pd_ixT (pd_var cc 0) pd_int)) (by rw [lenD])) (Nat.le_trans hn (by decide))) ?_ ?_
  · intro n d hd
    rw [List.getElem?_map] at hd
    have hlt : n < p.n := by
      by_cases h : n < p.n
      · exact h
      · rw [List.getElem?_eq_none (by simpa using h)] at hd
        cases hd
    rw [List.getElem?_range hlt] at hd
    obtain rfl : ((n : Nat) : Int) = d := Option.some.inj hd
    rw [cornersTo_succ]
    have ht : (decide ((0 : Int) < ((n : Nat) : Int)) || closed p) = (decide (0 < n) || closed p) := by
      congr 1
      exact decide_eq_decide.mpr (by omega)
    refine ba_if (PDT.eq (pdt_w (pdw_or (pdt_gt (pd_var cc 2) pd_int) fun _ => pdw_or1 (pdt_val (pd_call cc g1 (pda_cons (pd_var cc 0) pda_nil) ⟨p, rfl, hp, rfl⟩)))) ht) (fun h => ?_) fun h => ?_
    · rw [if_pos h]
      have hm : (if n = 0 then p.n - 1 else n - 1) < p.n := by split <;> omega
      have s1 := sz_hE (hp.sb (Nat.le_of_lt hm)) (hp.sp _ hm) (hp.ok _ hm)
      have s2 := sz_hB (hp.sb (Nat.le_of_lt hlt)) (hp.sp _ hlt) (hp.ok _ hlt)
      refine ba_set c 3 (pd_ixT (pd_call cc g2 (pda_cons (pd_var cc 0) (pda_cons (pd_if (d := .int (((if n = 0 then p.n - 1 else n - 1) : Nat) : Int)) (pdt_gt (pd_var cc 2) pd_int) (fun hq => PD.eq (pd_sub (pd_var cc 2) pd_int) ?_) (fun hq => PD.eq (pd_sub (pd_lenT cc f.b_len (pd_ixT (pd_var cc 0) pd_int)) pd_int) ?_)) pda_nil)) ⟨p, _, rfl, hp, hm, rfl⟩) pd_int) rfl ?_
      · have := of_decide_eq_true hq
        rw [if_neg (by omega)]
        congr 1
        omega
      · have := of_decide_eq_false hq
        rw [if_pos (by omega), lenD]
        congr 1
        omega
      · exact ba_app c (pd_tup (pda_cons (pd_var cc 2) (pda_cons (pd_call cc g3 (pda_cons (pd_var cc 3) (pda_cons (pd_ixT (pd_call cc g2 (pda_cons (pd_var cc 0) (pda_cons (pd_var cc 2) pda_nil)) ⟨p, n, rfl, hp, hlt, rfl⟩) pd_int) pda_nil)) ⟨_, _, rfl, s1, s2, rfl⟩) pda_nil))) rfl
          (Nat.lt_of_le_of_lt (cornersTo_len p n) (by omega)) ba_nil
    · rw [if_neg (by rw [h]; decide)]
      exact ba_nil
  · refine psd_ret (pd_var cc 1) ?_
    rw [List.length_map, List.length_range]
    rfl
theorem kn_other_turn (A : At K mg "other_turn" s41) (C : CTurns K mg) : Kn P w K mg base "other_turn" ["turn"] (spP K PR_other_turn) 1 := by
  refine def_ok A sc41 (by rintro _ _ ⟨a, rfl, _⟩; rfl) (fun _ _ _ _ _ _ us hl => match us, hl with | [_], _ => rfl) ?_
  rintro X rfl rfl rfl rfl rfl c he _ _ ⟨l, rfl, rfl⟩
  have cc := c.toCtx
  cases l with
  | true => exact psd_ret (pd_ifT (pdt_eqT cc (pd_var cc 0) (pd_ixT (pd_glob cc C) pd_int) q_ll h_left h_left) (pd_ixT (pd_glob cc C) pd_int)) rfl
  | false => exact psd_ret (pd_ifF (pdt_eqF cc (pd_var cc 0) (pd_ixT (pd_glob cc C) pd_int) q_rl h_right h_left) (pd_ixT (pd_glob cc C) pd_int)) rfl
theorem endsL_get {p : Path} {i : Nat} (h : i ≤ p.n) : (endsL p)[i]? = some (pt (beginAt p i)) := by
  unfold endsL
  rw [List.getElem?_map, List.getElem?_range (by omega)]
  rfl
theorem endsL_len (p : Path) : (endsL p).length = p.n + 1 := by simp [endsL]
theorem kn_turned_about (A : At K mg "turned_about" s42) (f : Fr mg) (C : CSide K mg) (CA : CArc K mg) (g1 : Kn P w K mg base "ends_of" ["path"] (spP K PR_ends_of) 2) (g2 : Kn P w K mg base "other_turn" ["turn"] (spP K PR_other_turn) 1) :
    Kn P w K mg base "turned_about" ["path"] (spP K PR_turned_about) 3 := by
  refine def_ok A sc42 (by rintro _ _ ⟨a, rfl, _⟩; rfl) (fun _ _ _ _ _ _ us hl => match us, hl with | [_], _ => rfl) ?_
  rintro X rfl rfl rfl rfl rfl c he _ _ ⟨p, rfl, hp, rfl⟩
  have cc := c.toCtx
  have hn := hp.len
  have h0 := hp.pos
  refine psd_set c 1 (pd_call cc g1 (pda_cons (pd_var cc 0) pda_nil) ⟨p, rfl, hp, rfl⟩) ?_
  refine psd_build c 2 3 (fun m => (List.range m).map fun j => pcD (revPc (beginAt p (p.n - 1 - j)) (pieceAt p (p.n - 1 - j)))) rfl
    (pda_down (n := p.n) cc f.b_range (PD.eq (pd_sub (pd_lenT cc f.b_len (pd_ixT (pd_var cc 0) pd_int)) pd_int) (by rw [lenD])) (pd_neg pd_int) (pd_neg pd_int) (Nat.le_trans hn (by decide))) ?_ ?_
  · intro n d hd
    rw [List.getElem?_map] at hd
    have hlt : n < p.n := by
      by_cases h : n < p.n
      · exact h
      · rw [List.getElem?_eq_none (by simpa using h)] at hd
        cases hd
    rw [List.getElem?_range hlt] at hd
    obtain rfl : ((p.n - 1 - n : Nat) : Int) = d := by
      have h : (p.n : Int) - 1 - ((n : Nat) : Int) = d := Option.some.inj hd
      omega
    show BA X _ _ _ _ ((List.range n).map _) ((List.range (n + 1)).map _)
    rw [List.range_succ, List.map_append]
    refine ba_set c 4 (pd_ixT (pd_ixT (pd_var cc 0) pd_int) (pd_var cc 3) (atI_nat (pieceD_get (by omega)))) (tupd_pc _) ?_
    have hend : atI (endsL p) ((p.n - 1 - n : Nat) : Int) = some (pt (beginAt p (p.n - 1 - n))) := atI_nat (endsL_get (by omega))
    show BA X _ _ _ _ _ (_ ++ [pcD (revPc (beginAt p (p.n - 1 - n)) (pieceAt p (p.n - 1 - n)))])
    generalize pieceAt p (p.n - 1 - n) = pc
    cases pc with
    | side t =>
      exact ba_if (pdt_eqT cc (pd_ixT (pd_var cc 4) pd_int) (pd_glob cc C) q_ss h_side h_side) (fun _ => ba_app c (pd_tup (pda_cons (pd_glob cc C) (pda_cons (pd_ixL (pd_var cc 1) (pd_var cc 3) hend) pda_nil))) rfl (by simp; omega) ba_nil) (fun h => by cases h)
    | arc m t l =>
      exact ba_if (pdt_eqF cc (pd_ixT (pd_var cc 4) pd_int) (pd_glob cc C) q_as h_arc h_side) (fun h => by cases h) fun _ => ba_app c (pd_tup (pda_cons (pd_glob cc CA) (pda_cons (pd_ixT (pd_var cc 4) pd_int) (pda_cons (pd_ixL (pd_var cc 1) (pd_var cc 3) hend) (pda_cons (pd_call cc g2 (pda_cons (pd_ixT (pd_var cc 4) pd_int) pda_nil) ⟨l, rfl, rfl⟩) pda_nil))))) rfl (by simp; omega) ba_nil
  · refine psd_ret (pd_tup (pda_cons (pd_ixL (pd_var cc 1) (pd_neg pd_int) (atI_n1 (n := p.n) (endsL_len p) (endsL_get (Nat.le_refl _)))) (pda_cons (pd_tupL cc f.b_tuple (pd_var cc 2)) pda_nil))) ?_
    unfold pathD turned
    rw [List.map_map, List.length_map, List.length_range]
    rfl
theorem kn_mirrored_point (A : At K mg "mirrored_point" s43) : Kn P w K mg base "mirrored_point" ["point"] (spP K PR_mirrored_point) 1 := by
  refine def_ok A sc43 (by rintro _ _ ⟨a, rfl, _⟩; rfl) (fun _ _ _ _ _ _ us hl => match us, hl with | [_], _ => rfl) ?_
  rintro X rfl rfl rfl rfl rfl c he _ _ ⟨p, rfl, rfl⟩
  have cc := c.toCtx
  exact psd_ret (pd_tup (pda_cons (pd_tup (pda_cons (pd_neg (pd_ixT (pd_ixT (pd_var cc 0) pd_int) pd_int)) (pda_cons (pd_ixT (pd_ixT (pd_var cc 0) pd_int) pd_int) pda_nil))) (pda_cons (pd_ixT (pd_var cc 0) pd_int) pda_nil))) rfl
theorem kn_mirrored_piece (A : At K mg "mirrored_piece" s44) (C : CSide K mg) (CA : CArc K mg) (g1 : Kn P w K mg base "mirrored_point" ["point"] (spP K PR_mirrored_point) 1) (g2 : Kn P w K mg base "other_turn" ["turn"] (spP K PR_other_turn) 1) :
    Kn P w K mg base "mirrored_piece" ["piece"] (spP K PR_mirrored_piece) 2 := by
  refine def_ok A sc44 (by rintro _ _ ⟨a, rfl, _⟩; rfl) (fun _ _ _ _ _ _ us hl => match us, hl with | [_], _ => rfl) ?_
  rintro X rfl rfl rfl rfl rfl c he _ _ ⟨pc, rfl, rfl⟩
  have cc := c.toCtx
  cases pc with
  | side t => exact psd_ifT (pdt_eqT cc (pd_ixT (pd_var cc 0) pd_int) (pd_glob cc C) q_ss h_side h_side) (psd_ret (pd_tup (pda_cons (pd_glob cc C) (pda_cons (pd_call cc g1 (pda_cons (pd_ixT (pd_var cc 0) pd_int) pda_nil) ⟨_, rfl, rfl⟩) pda_nil))) rfl)
  | arc m t l =>
    exact psd_skip (pdt_eqF cc (pd_ixT (pd_var cc 0) pd_int) (pd_glob cc C) q_as h_arc h_side) (psd_ret (pd_tup (pda_cons (pd_glob cc CA) (pda_cons (pd_call cc g1 (pda_cons (pd_ixT (pd_var cc 0) pd_int) pda_nil) ⟨_, rfl, rfl⟩) (pda_cons (pd_call cc g1 (pda_cons (pd_ixT (pd_var cc 0) pd_int) pda_nil) ⟨_, rfl, rfl⟩)
      (pda_cons (pd_call cc g2 (pda_cons (pd_ixT (pd_var cc 0) pd_int) pda_nil) ⟨l, rfl, rfl⟩) pda_nil))))) rfl)
theorem kn_mirrored (A : At K mg "mirrored" s45) (f : Fr mg) (g1 : Kn P w K mg base "mirrored_point" ["point"] (spP K PR_mirrored_point) 1) (g2 : Kn P w K mg base "mirrored_piece" ["piece"] (spP K PR_mirrored_piece) 2) : Kn P w K mg base "mirrored" ["path"] (spP K PR_mirrored) 3 := by
  refine def_ok A sc45 (by rintro _ _ ⟨a, rfl, _⟩; rfl) (fun _ _ _ _ _ _ us hl => match us, hl with | [_], _ => rfl) ?_
  rintro X rfl rfl rfl rfl rfl c he _ _ ⟨p, rfl, hp, rfl⟩
  have cc := c.toCtx
  have hv : ∀ c, onD pcD (fun c => pcD (mirPc c)) (pcD c) = pcD (mirPc c) := onD_eq fun a b => pc_inj
  refine psd_ret (pd_tup (pda_cons (pd_call cc g1 (pda_cons (pd_ixT (pd_var cc 0) pd_int) pda_nil) ⟨_, rfl, rfl⟩) (pda_cons (pd_tupL cc f.b_tuple (pd_lc cc [("piece", 1)] (fun d ρ => ρ.set 1 (some d)) (fun _ => true) (onD pcD fun c => pcD (mirPc c)) (by decide +kernel) (pdi_tup (pd_ixT (pd_var cc 0) pd_int))
    (by rw [lenD]; exact Nat.le_trans hp.len (by decide)) (fun d hd _ => ?_) (fun X' _ c' => pg_blk c' 1) (fun d _ => gd_name (by decide)) (fun X' _ c' d _ => pdts_nil) (fun X' hX c' d hd _ => ?_))) pda_nil))) ?_
  · obtain ⟨c0, _, rfl⟩ := List.mem_map.mp hd
    rw [hv]
    exact tupd_pc _
  · obtain ⟨c0, _, rfl⟩ := List.mem_map.mp hd
    rw [hv]
    exact pd_call c' (g2.blkP hX.same) (pda_cons (pd_var c' 1) pda_nil) ⟨c0, rfl, rfl⟩
  · unfold pathD mir
    rw [List.filter_eq_self.mpr (fun _ _ => rfl), List.map_map, List.map_map]
    congr 4
    exact List.map_congr_left fun c0 _ => hv c0
theorem kn_moved_piece (A : At K mg "moved_piece" s46) (C : CSide K mg) (CA : CArc K mg) (g1 : Kn P w K mg base "plus" ["one", "other"] (spP K PR_plus) 4) : Kn P w K mg base "moved_piece" ["piece", "vector"] (spP K PR_moved_piece) 5 := by
  refine def_ok A sc46 (by rintro _ _ ⟨a, b, rfl, _⟩; rfl) (fun _ _ _ _ _ _ us hl => match us, hl with | [_, _], _ => rfl) ?_
  rintro X rfl rfl rfl rfl rfl c he _ _ ⟨pc, v, rfl, hs, hv, rfl⟩
  have cc := c.toCtx
  have hv' := hv.mono (show 1000 ≤ 4000 by decide)
  cases pc with
  | side t => exact psd_ifT (pdt_eqT cc (pd_ixT (pd_var cc 0) pd_int) (pd_glob cc C) q_ss h_side h_side) (psd_ret (pd_tup (pda_cons (pd_glob cc C) (pda_cons (pd_call cc g1 (pda_cons (pd_ixT (pd_var cc 0) pd_int) (pda_cons (pd_var cc 1) pda_nil)) ⟨_, _, rfl, SzP.mono (a := 100) hs (by decide), hv', rfl⟩) pda_nil))) rfl)
  | arc m t l =>
    exact psd_skip (pdt_eqF cc (pd_ixT (pd_var cc 0) pd_int) (pd_glob cc C) q_as h_arc h_side) (psd_ret (pd_tup (pda_cons (pd_glob cc CA) (pda_cons (pd_call cc g1 (pda_cons (pd_ixT (pd_var cc 0) pd_int) (pda_cons (pd_var cc 1) pda_nil)) ⟨_, _, rfl, hs.1.mono (by decide), hv', rfl⟩)
      (pda_cons (pd_call cc g1 (pda_cons (pd_ixT (pd_var cc 0) pd_int) (pda_cons (pd_var cc 1) pda_nil)) ⟨_, _, rfl, hs.2.mono (by decide), hv', rfl⟩) (pda_cons (pd_ixT (pd_var cc 0) pd_int) pda_nil))))) rfl)
theorem kn_moved (A : At K mg "moved" s47) (f : Fr mg) (g1 : Kn P w K mg base "plus" ["one", "other"] (spP K PR_plus) 4) (g2 : Kn P w K mg base "moved_piece" ["piece", "vector"] (spP K PR_moved_piece) 5) : Kn P w K mg base "moved" ["path", "vector"] (spP K PR_moved) 6 := by
  refine def_ok A sc47 (by rintro _ _ ⟨a, b, rfl, _⟩; rfl) (fun _ _ _ _ _ _ us hl => match us, hl with | [_, _], _ => rfl) ?_
  rintro X rfl rfl rfl rfl rfl c he _ _ ⟨p, v, rfl, hp, hs, rfl⟩
  have cc := c.toCtx
  have hs' := hs.mono (show 1000 ≤ 4000 by decide)
  have hv : ∀ c, onD pcD (fun c => pcD (movPc v c)) (pcD c) = pcD (movPc v c) := onD_eq fun a b => pc_inj
  refine psd_ret (pd_tup (pda_cons (pd_call cc g1 (pda_cons (pd_ixT (pd_var cc 0) pd_int) (pda_cons (pd_var cc 1) pda_nil)) ⟨_, _, rfl, hp.ss.mono (by decide), hs', rfl⟩) (pda_cons (pd_tupL cc f.b_tuple (pd_lc cc [("piece", 2)] (fun d ρ => ρ.set 2 (some d)) (fun _ => true) (onD pcD fun c => pcD (movPc v c)) (by decide +kernel) (pdi_tup (pd_ixT (pd_var cc 0) pd_int))
    (by rw [lenD]; exact Nat.le_trans hp.len (by decide)) (fun d hd _ => ?_) (fun X' _ c' => pg_blk c' 2) (fun d _ => gd_name (by decide)) (fun X' _ c' d _ => pdts_nil) (fun X' hX c' d hd _ => ?_))) pda_nil))) ?_
  · obtain ⟨c0, _, rfl⟩ := List.mem_map.mp hd
    rw [hv]
    exact tupd_pc _
  · obtain ⟨c0, h0, rfl⟩ := List.mem_map.mp hd
    rw [hv]
    have hsz : SzPc 100 c0 := by
      obtain ⟨i, hi, e⟩ := List.mem_iff_getElem.mp h0
      have h1 := piece_get (p := p) (i := i) hi
      rw [List.getElem?_eq_getElem hi, e] at h1
      rw [Option.some.inj h1]
      exact hp.sp i hi
    exact pd_call c' (g2.blkP hX.same) (pda_cons (pd_var c' 2) (pda_cons (pd_var c' 1) pda_nil)) ⟨c0, v, rfl, hsz, hs, rfl⟩
  · unfold pathD mov
    rw [List.filter_eq_self.mpr (fun _ _ => rfl), List.map_map, List.map_map]
    congr 4
    exact List.map_congr_left fun c0 _ => hv c0
end
end SC

set_option maxHeartbeats 4000000
/-! the law's own arithmetic -/
namespace SC
open PySem PySem.Spec PyProof.Rows L2 RZ
def onP (p v : Pt) (r : Rat) : Pt := (p.1 + v.1 * r, p.2 + v.2 * r)
def PL_fr : List PyData → PyData → Prop := PR_fraction
def PL_add : List PyData → PyData → Prop := fun ds d => ∃ p q k, ds = [fr p, fr q, .int k] ∧ Sz 4000 p ∧ Sz 4000 q ∧ k.natAbs < 2 ^ 10 ∧ d = fr (p + (k : Rat) * q)
def PL_mul : List PyData → PyData → Prop := PR_times
def PL_on : List PyData → PyData → Prop := fun ds d => ∃ p v r, ds = [pt p, pt v, fr r] ∧ SzP 4000 p ∧ SzP 2000 v ∧ Sz 2000 r ∧ d = pt (onP p v r)
def PL_dot : List PyData → PyData → Prop := PR_dot
def PL_cross : List PyData → PyData → Prop := PR_cross
def PL_left : List PyData → PyData → Prop := PR_left_of
def PL_about : List PyData → PyData → Prop := PR_opposite
def PL_to : List PyData → PyData → Prop := PR_to_of
def PL_begins : List PyData → PyData → Prop := fun ds d => ∃ p, ds = [pathD p] ∧ Ok p ∧ d = .list ((List.range p.n).map fun i => pt (beginAt p i))
theorem int1 (q : Rat) : ((1 : Int) : Rat) * q = q := by simp
theorem intm1 (q : Rat) : ((-1 : Int) : Rat) * q = -q := by
  rw [show ((-1 : Int) : Rat) = -1 from rfl]
  grind
theorem neg_di (q : Rat) : Rat.divInt (-q.num) q.den = -q := by
  rw [← Rat.neg_divInt, Rat.num_divInt_den]
section
variable {P : Program} {w : World} {K : PySem.W.Frag} {mg : Str → Option Value} {base : Heap}
theorem kl_fr (A : At K mg "_law_fr" s52) (f : Fr mg) : Kn P w K mg base "_law_fr" ["_law_top", "_law_bottom"] (spP K PL_fr) 1 := by
  refine def_ok A sc52 (by rintro _ _ ⟨a, b, rfl, _⟩; rfl) (fun _ _ _ _ _ _ us hl => match us, hl with | [_, _], _ => rfl) ?_
  rintro X rfl rfl rfl rfl rfl c he _ _ ⟨n, d, rfl, hd, hs, rfl⟩
  have cc := c.toCtx
  have eg : Int.gcd (n.natAbs : Int) (d.natAbs : Int) = Int.gcd n d := by simp [Int.gcd]
  have hw : CDivW n (Int.gcd n d : Int) := wide_div (gcd_pos hd) (b := 9000) (Nat.lt_of_le_of_lt (by have := gcd_le (n := n) hd; omega) hs) (by decide) (by decide)
  have hw2 : CDivW d (Int.gcd n d : Int) := ⟨hw.1, hw.2⟩
  refine psd_par c 2 3 (pd_abs cc f.b_abs (pd_var cc 0)) (pd_abs cc f.b_abs (pd_var cc 1)) ?_ (by obtain ⟨q, n, f, cd, he⟩ := he; rw [he]; rfl)
  refine psd_while c (fun m ρ => ∃ x y : Int, ρ = [some (.int n), some (.int d), some (.int x), some (.int y), none] ∧ m = y.toNat ∧ 0 ≤ x ∧ 0 ≤ y ∧ Int.gcd x y = Int.gcd n d) (d.natAbs : Int).toNat ⟨_, _, rfl, rfl, by omega, by omega, eg⟩ ?_
  rintro m _ ⟨x, y, rfl, rfl, hx, hy, hg⟩
  refine ⟨_, pdt_gt (pd_var cc 3) pd_int, fun ht => ?_, fun ht => ?_⟩
  · have hy1 : 0 < y := of_decide_eq_true ht
    refine psd_par c 2 3 (pd_var cc 3) (pd_mod (pd_var cc 2) (pd_var cc 3) hy1) (psd_nil ?_) (by obtain ⟨q, n, f, cd, he⟩ := he; rw [he]; rfl)
    have h1 := Int.emod_lt_of_pos x hy1
    have h0 := Int.emod_nonneg x (show y ≠ 0 by omega)
    exact ⟨(x % y).toNat, by omega, y, x % y, rfl, rfl, hy, h0, by rw [gcd_step hx hy1, hg]⟩
  · have hy0 : y = 0 := by
      have := of_decide_eq_false ht
      omega
    subst hy0
    have ex : x = (Int.gcd n d : Int) := by
      rw [← hg, Int.gcd_zero_right]
      omega
    subst ex
    refine psd_set c 4 (pd_if (pdt_gt (pd_var cc 1) pd_int) (fun _ => pd_var cc 2) fun h => absurd (of_decide_eq_false h) (by omega)) ?_
    refine psd_ret (pd_tup (pda_cons (pd_fdiv (pd_var cc 0) (pd_var cc 4) hw) (pda_cons (pd_fdiv (pd_var cc 1) (pd_var cc 4) hw2) pda_nil))) ?_
    unfold fr
    rw [divInt_num hd, divInt_den hd]
theorem kl_add (A : At K mg "_law_add" s53) (g : Kn P w K mg base "_law_fr" ["_law_top", "_law_bottom"] (spP K PL_fr) 1) : Kn P w K mg base "_law_add" ["_law_one", "_law_other", "_law_by"] (spP K PL_add) 2 := by
  refine def_ok A sc53 (by rintro _ _ ⟨a, b, _, rfl, _⟩; rfl) (fun _ _ _ _ _ _ us hl => match us, hl with | [_, _, _], _ => rfl) ?_
  rintro X rfl rfl rfl rfl rfl c he _ _ ⟨p, q, k, rfl, hp, hq, hk, rfl⟩
  have cc := c.toCtx
  refine psd_ret (pd_call cc g (pda_cons (pd_add (pd_mul (pd_ixT (pd_var cc 0) pd_int) (pd_ixT (pd_var cc 1) pd_int) (mulW hp.n hq.dn)) (pd_mul (pd_mul (pd_var cc 2) (pd_ixT (pd_var cc 1) pd_int) (mulW hk hq.n)) (pd_ixT (pd_var cc 0) pd_int) (mulW (lt_mul hk hq.n) hp.dn)))
    (pda_cons (pd_mul (pd_ixT (pd_var cc 0) pd_int) (pd_ixT (pd_var cc 1) pd_int) (mulW hp.dn hq.dn)) pda_nil)) ⟨_, _, rfl, dd_pos p q, lt_pow (lt_mul hp.dn hq.dn) (by decide), rfl⟩) ?_
  rw [addk_di]
theorem kl_mul (A : At K mg "_law_mul" s54) (g : Kn P w K mg base "_law_fr" ["_law_top", "_law_bottom"] (spP K PL_fr) 1) : Kn P w K mg base "_law_mul" ["_law_one", "_law_other"] (spP K PL_mul) 2 := by
  refine def_ok A sc54 (by rintro _ _ ⟨a, b, rfl, _⟩; rfl) (fun _ _ _ _ _ _ us hl => match us, hl with | [_, _], _ => rfl) ?_
  rintro X rfl rfl rfl rfl rfl c he _ _ ⟨p, q, rfl, hp, hq, rfl⟩
  have cc := c.toCtx
  refine psd_ret (pd_call cc g (pda_cons (pd_mul (pd_ixT (pd_var cc 0) pd_int) (pd_ixT (pd_var cc 1) pd_int) (mulW hp.n hq.n))
    (pda_cons (pd_mul (pd_ixT (pd_var cc 0) pd_int) (pd_ixT (pd_var cc 1) pd_int) (mulW hp.dn hq.dn)) pda_nil)) ⟨_, _, rfl, dd_pos p q, lt_pow (lt_mul hp.dn hq.dn) (by decide), rfl⟩) ?_
  rw [mul_di]
theorem kl_on (A : At K mg "_law_on" s55) (g1 : Kn P w K mg base "_law_add" ["_law_one", "_law_other", "_law_by"] (spP K PL_add) 2) (g2 : Kn P w K mg base "_law_mul" ["_law_one", "_law_other"] (spP K PL_mul) 2) : Kn P w K mg base "_law_on" ["_law_point", "_law_vector", "_law_by"] (spP K PL_on) 3 := by
  refine def_ok A sc55 (by rintro _ _ ⟨a, b, _, rfl, _⟩; rfl) (fun _ _ _ _ _ _ us hl => match us, hl with | [_, _, _], _ => rfl) ?_
  rintro X rfl rfl rfl rfl rfl c he _ _ ⟨p, v, r, rfl, hp, hv, hr, rfl⟩
  have cc := c.toCtx
  have hv' := hv.mono (show 2000 ≤ 4000 by decide)
  have hr' := hr.mono (show 2000 ≤ 4000 by decide)
  refine psd_ret (pd_tup (pda_cons (pd_call cc g1 (pda_cons (pd_ixT (pd_var cc 0) pd_int) (pda_cons (pd_call cc g2 (pda_cons (pd_ixT (pd_var cc 1) pd_int) (pda_cons (pd_var cc 2) pda_nil)) ⟨_, _, rfl, hv'.x, hr', rfl⟩) (pda_cons pd_int pda_nil))) ⟨_, _, _, rfl, hp.x, hv.x.mul hr, by decide, rfl⟩)
    (pda_cons (pd_call cc g1 (pda_cons (pd_ixT (pd_var cc 0) pd_int) (pda_cons (pd_call cc g2 (pda_cons (pd_ixT (pd_var cc 1) pd_int) (pda_cons (pd_var cc 2) pda_nil)) ⟨_, _, rfl, hv'.y, hr', rfl⟩) (pda_cons pd_int pda_nil))) ⟨_, _, _, rfl, hp.y, hv.y.mul hr, by decide, rfl⟩) pda_nil))) ?_
  rw [int1, int1]
  rfl
theorem kl_dot (A : At K mg "_law_dot" s57) (g1 : Kn P w K mg base "_law_add" ["_law_one", "_law_other", "_law_by"] (spP K PL_add) 2) (g2 : Kn P w K mg base "_law_mul" ["_law_one", "_law_other"] (spP K PL_mul) 2) : Kn P w K mg base "_law_dot" ["_law_one", "_law_other"] (spP K PL_dot) 3 := by
  refine def_ok A sc57 (by rintro _ _ ⟨a, b, rfl, _⟩; rfl) (fun _ _ _ _ _ _ us hl => match us, hl with | [_, _], _ => rfl) ?_
  rintro X rfl rfl rfl rfl rfl c he _ _ ⟨p, q, rfl, hp, hq, rfl⟩
  have cc := c.toCtx
  have hp' := hp.mono (show 1900 ≤ 4000 by decide)
  have hq' := hq.mono (show 1900 ≤ 4000 by decide)
  refine psd_ret (pd_call cc g1 (pda_cons (pd_call cc g2 (pda_cons (pd_ixT (pd_var cc 0) pd_int) (pda_cons (pd_ixT (pd_var cc 1) pd_int) pda_nil)) ⟨_, _, rfl, hp'.x, hq'.x, rfl⟩)
    (pda_cons (pd_call cc g2 (pda_cons (pd_ixT (pd_var cc 0) pd_int) (pda_cons (pd_ixT (pd_var cc 1) pd_int) pda_nil)) ⟨_, _, rfl, hp'.y, hq'.y, rfl⟩) (pda_cons pd_int pda_nil))) ⟨_, _, _, rfl, (hp.x.mul hq.x).mono (by decide), (hp.y.mul hq.y).mono (by decide), by decide, rfl⟩) ?_
  rw [int1]
  rfl
theorem kl_cross (A : At K mg "_law_cross" s58) (g1 : Kn P w K mg base "_law_add" ["_law_one", "_law_other", "_law_by"] (spP K PL_add) 2) (g2 : Kn P w K mg base "_law_mul" ["_law_one", "_law_other"] (spP K PL_mul) 2) : Kn P w K mg base "_law_cross" ["_law_one", "_law_other"] (spP K PL_cross) 3 := by
  refine def_ok A sc58 (by rintro _ _ ⟨a, b, rfl, _⟩; rfl) (fun _ _ _ _ _ _ us hl => match us, hl with | [_, _], _ => rfl) ?_
  rintro X rfl rfl rfl rfl rfl c he _ _ ⟨p, q, rfl, hp, hq, rfl⟩
  have cc := c.toCtx
  have hp' := hp.mono (show 1900 ≤ 4000 by decide)
  have hq' := hq.mono (show 1900 ≤ 4000 by decide)
  refine psd_ret (pd_call cc g1 (pda_cons (pd_call cc g2 (pda_cons (pd_ixT (pd_var cc 0) pd_int) (pda_cons (pd_ixT (pd_var cc 1) pd_int) pda_nil)) ⟨_, _, rfl, hp'.x, hq'.y, rfl⟩)
    (pda_cons (pd_call cc g2 (pda_cons (pd_ixT (pd_var cc 0) pd_int) (pda_cons (pd_ixT (pd_var cc 1) pd_int) pda_nil)) ⟨_, _, rfl, hp'.y, hq'.x, rfl⟩) (pda_cons (pd_neg pd_int) pda_nil))) ⟨_, _, _, rfl, (hp.x.mul hq.y).mono (by decide), (hp.y.mul hq.x).mono (by decide), by decide, rfl⟩) ?_
  rw [intm1]
  show fr _ = fr (p.1 * q.2 - p.2 * q.1)
  rw [Rat.sub_eq_add_neg]
theorem kl_left (A : At K mg "_law_left" s59) (g : Kn P w K mg base "_law_fr" ["_law_top", "_law_bottom"] (spP K PL_fr) 1) : Kn P w K mg base "_law_left" ["_law_vector"] (spP K PL_left) 2 := by
  refine def_ok A sc59 (by rintro _ _ ⟨a, rfl, _⟩; rfl) (fun _ _ _ _ _ _ us hl => match us, hl with | [_], _ => rfl) ?_
  rintro X rfl rfl rfl rfl rfl c he _ _ ⟨p, rfl, hp, rfl⟩
  have cc := c.toCtx
  refine psd_ret (pd_tup (pda_cons (pd_call cc g (pda_cons (pd_neg (pd_ixT (pd_ixT (pd_var cc 0) pd_int) pd_int)) (pda_cons (pd_ixT (pd_ixT (pd_var cc 0) pd_int) pd_int) pda_nil)) ⟨_, _, rfl, den_p p.2, lt_pow hp.y.dn (by decide), rfl⟩) (pda_cons (pd_ixT (pd_var cc 0) pd_int) pda_nil))) ?_
  rw [neg_di]
  rfl
theorem kl_about (A : At K mg "_law_about" s66) (g : Kn P w K mg base "_law_left" ["_law_vector"] (spP K PL_left) 2) : Kn P w K mg base "_law_about" ["_law_vector"] (spP K PL_about) 3 := by
  refine def_ok A sc66 (by rintro _ _ ⟨a, rfl, _⟩; rfl) (fun _ _ _ _ _ _ us hl => match us, hl with | [_], _ => rfl) ?_
  rintro X rfl rfl rfl rfl rfl c he _ _ ⟨p, rfl, hp, rfl⟩
  have cc := c.toCtx
  exact psd_ret (pd_call cc g (pda_cons (pd_call cc g (pda_cons (pd_var cc 0) pda_nil) ⟨_, rfl, hp, rfl⟩) pda_nil) ⟨_, rfl, hp.left, rfl⟩) rfl
theorem kl_to (A : At K mg "_law_to" s64) : Kn P w K mg base "_law_to" ["_law_piece"] (spP K PL_to) 1 := by
  refine def_ok A sc64 (by rintro _ _ ⟨a, rfl, _⟩; rfl) (fun _ _ _ _ _ _ us hl => match us, hl with | [_], _ => rfl) ?_
  rintro X rfl rfl rfl rfl rfl c he _ _ ⟨pc, rfl, rfl⟩
  have cc := c.toCtx
  cases pc with
  | side t => exact psd_ret (pd_ifT (pdt_eqT cc (pd_ixT (pd_var cc 0) pd_int) pd_str q_ss h_side h_side) (pd_ixT (pd_var cc 0) pd_int)) rfl
  | arc m t l => exact psd_ret (pd_ifF (pdt_eqF cc (pd_ixT (pd_var cc 0) pd_int) pd_str q_as h_arc h_side) (pd_ixT (pd_var cc 0) pd_int)) rfl
theorem cut_last {α : Type} (xs : List α) (n : Nat) (h : xs.length = n + 1) : cutD xs none (some (-1)) = xs.take n := by
  unfold cutD
  rw [HT.sIx_none, h, List.drop_zero]
  congr 1
  have e : HT.sIx (n + 1) (n + 1) (some (-1)) = ((-1 : Int) + ((n + 1 : Nat) : Int)).toNat := by
    show (if (-1 : Int) < 0 then ((-1 : Int) + ((n + 1 : Nat) : Int)).toNat else min (-1 : Int).toNat (n + 1)) = _
    rw [if_pos (by decide)]
  rw [e]
  omega
theorem begins_eq (p : Path) (n : Nat) (h : p.n = n + 1) : (List.range p.n).map (fun i => pt (beginAt p i)) = [pt p.s] ++ (p.ps.take n).map fun c => pt c.to := by
  apply List.ext_getElem?
  intro i
  rw [List.getElem?_map]
  by_cases hi : i < p.n
  · rw [List.getElem?_range hi]
    cases i with
    | zero => rfl
    | succ i =>
      rw [List.getElem?_append_right (by simp), List.getElem?_map]
      show _ = Option.map _ (p.ps.take n)[i]?
      rw [List.getElem?_take_of_lt (by omega), piece_get (by omega)]
      rfl
  · rw [List.getElem?_eq_none (by simp; omega), List.getElem?_eq_none (by simp [Path.n] at hi h ⊢; omega)]
    rfl
theorem kl_begins (A : At K mg "_law_begins" s65) (g : Kn P w K mg base "_law_to" ["_law_piece"] (spP K PL_to) 1) : Kn P w K mg base "_law_begins" ["_law_path_here"] (spP K PL_begins) 2 := by
  refine def_ok A sc65 (by rintro _ _ ⟨a, rfl, _⟩; rfl) (fun _ _ _ _ _ _ us hl => match us, hl with | [_], _ => rfl) ?_
  rintro X rfl rfl rfl rfl rfl c he _ _ ⟨p, rfl, hp, rfl⟩
  have cc := c.toCtx
  have h0 := hp.pos
  have hl := hp.len
  obtain ⟨n, hn⟩ : ∃ n, p.n = n + 1 := ⟨p.n - 1, by omega⟩
  have hv : ∀ c, onD pcD (fun c => pt c.to) (pcD c) = pt c.to := onD_eq fun a b => pc_inj
  have hc : cutD (p.ps.map pcD) none (some (-1)) = (p.ps.take n).map pcD := by
    rw [cut_last _ n (by rw [lenD, hn]), List.map_take]
  refine psd_ret (pd_catL (pd_lst (pda_cons (pd_ixT (pd_var cc 0) pd_int) pda_nil)) (pd_lc cc [("_law_piece", 1)] (fun d ρ => ρ.set 1 (some d)) (fun _ => true) (onD pcD fun c => pt c.to) (by decide +kernel)
      (pdi_tup (PD.eq (pd_slT (pd_ixT (pd_var cc 0) pd_int) po_none edo_none (po_some pe_W) (edo_some (pd_neg pd_int))) (by rw [hc]))) (by rw [List.length_map, List.length_take]; omega) (fun d hd _ => ?_)
      (fun X' _ c' => pg_blk c' 1) (fun d _ => gd_name (by decide)) (fun X' _ c' d _ => pdts_nil) (fun X' hX c' d hd _ => ?_)) ?_) ?_
  · obtain ⟨c0, _, rfl⟩ := List.mem_map.mp hd
    rw [hv]
    rfl
  · obtain ⟨c0, _, rfl⟩ := List.mem_map.mp hd
    rw [hv]
    exact pd_call c' (g.blkP hX.same) (pda_cons (pd_var c' 1) pda_nil) ⟨c0, rfl, rfl⟩
  · rw [List.length_map]
    have := List.length_filter_le (fun _ => true) ((p.ps.take n).map pcD)
    simp only [List.length_cons, List.length_nil, List.length_map, List.length_take] at this ⊢
    omega
  · rw [begins_eq p n hn, List.filter_eq_self.mpr (fun _ _ => rfl), List.map_map]
    congr 3
    funext c0
    exact hv c0
end
end SC

set_option maxHeartbeats 4000000
/-! paths put otherwise: the mathematics -/
namespace SC
open PySem PySem.Spec PyProof.Rows L2 RZ
/-! ### vectors -/
theorem lenP_congr {v w : Pt} (h : dotP v v = dotP w w) : lenP v = lenP w := by
  unfold lenP
  rw [h]
theorem unit_dot {v : Pt} {r : Rat} (h0 : 0 < r) (h : r * r = dotP v v) : dotP (unitP v) (unitP v) = 1 := by
  unfold unitP
  rw [lenP_eq (Rat.le_of_lt h0) h]
  unfold dotP divP at *
  have : r ≠ 0 := Rat.ne_of_gt h0
  show v.1 / r * (v.1 / r) + v.2 / r * (v.2 / r) = 1
  grind
theorem dot_left (v : Pt) : dotP (leftP v) (leftP v) = dotP v v := by
  unfold dotP leftP
  grind
theorem dot_neg (v : Pt) : dotP (negP v) (negP v) = dotP v v := by
  unfold dotP negP
  grind
theorem dot_sub_comm (a b : Pt) : dotP (psub a b) (psub a b) = dotP (psub b a) (psub b a) := by
  unfold dotP psub
  grind
theorem psub_swap (a b : Pt) : psub a b = negP (psub b a) := by
  unfold psub negP
  ext <;> grind
theorem unit_neg (v : Pt) : unitP (negP v) = negP (unitP v) := by
  unfold unitP
  rw [lenP_congr (dot_neg v)]
  unfold divP negP
  ext <;> grind
theorem neg_neg (v : Pt) : negP (negP v) = v := by
  unfold negP
  ext <;> grind
theorem neg_inj {u v : Pt} (h : negP u = negP v) : u = v := by
  rw [← neg_neg u, h, neg_neg]
theorem dot_headAt {m q : Pt} {l : Bool} {r : Rat} (h0 : 0 < r) (h : r * r = dotP (psub q m) (psub q m)) : dotP (headAt m l q) (headAt m l q) = 1 := by
  unfold headAt
  split
  · rw [dot_left, unit_dot h0 h]
  · rw [dot_neg, dot_left, unit_dot h0 h]
theorem dot_hB {b : Pt} {pc : Pc} (h : OkPc b pc) : dotP (hB b pc) (hB b pc) = 1 := by
  cases pc with
  | side t =>
    obtain ⟨_, r, h0, h1⟩ := h
    exact unit_dot h0 h1
  | arc m t l =>
    obtain ⟨_, r, h0, h1, _⟩ := h
    exact dot_headAt h0 h1
theorem dot_hE {b : Pt} {pc : Pc} (h : OkPc b pc) : dotP (hE b pc) (hE b pc) = 1 := by
  cases pc with
  | side t =>
    obtain ⟨_, r, h0, h1⟩ := h
    exact unit_dot h0 h1
  | arc m t l =>
    obtain ⟨_, r, h0, _, h1⟩ := h
    exact dot_headAt h0 h1
/-- a quarter turn from the heading lies the middle -/
theorem mid_head {m q : Pt} {l : Bool} {r : Rat} (h0 : 0 < r) (h : r * r = dotP (psub q m) (psub q m)) : onP q (if l then leftP (headAt m l q) else negP (leftP (headAt m l q))) r = m := by
  have hr : r ≠ 0 := Rat.ne_of_gt h0
  have e : unitP (psub q m) = divP (psub q m) r := by
    unfold unitP
    rw [lenP_eq (Rat.le_of_lt h0) h]
  cases l with
  | true =>
    rw [if_pos rfl]
    unfold headAt
    rw [if_pos rfl, e]
    unfold onP leftP divP psub
    ext
    · show q.1 + -((q.1 - m.1) / r) * r = m.1
      grind
    · show q.2 + -((q.2 - m.2) / r) * r = m.2
      grind
  | false =>
    rw [if_neg (by decide)]
    unfold headAt
    rw [if_neg (by decide), e]
    unfold onP leftP negP divP psub
    ext
    · show q.1 + -(- -((q.1 - m.1) / r)) * r = m.1
      grind
    · show q.2 + -(- -((q.2 - m.2) / r)) * r = m.2
      grind

/-! ### words -/
def swapW (x : Str) : Str := if x = "left" then "right" else if x = "right" then "left" else x
def Wd (x : Str) : Prop := x = "straight" ∨ x = "left" ∨ x = "right" ∨ x = "back"
theorem sw_l : swapW "left" = "right" := by decide +kernel
theorem sw_r : swapW "right" = "left" := by decide +kernel
theorem sw_s : swapW "straight" = "straight" := by decide +kernel
theorem sw_b : swapW "back" = "back" := by decide +kernel
theorem word_wd (u v : Pt) : Wd (word u v) := by
  unfold word
  split
  · exact .inl rfl
  · split
    · exact .inr (.inl rfl)
    · split
      · exact .inr (.inr (.inl rfl))
      · exact .inr (.inr (.inr rfl))
theorem word_swap {u v u' v' : Pt} (he : u = v ↔ u' = v') (hc : crossP u' v' = -crossP u v) : word u' v' = swapW (word u v) := by
  unfold word
  by_cases e : u = v
  · rw [if_pos e, if_pos (he.mp e), sw_s]
  · rw [if_neg e, if_neg (fun z => e (he.mpr z)), hc]
    by_cases h1 : 0 < crossP u v
    · rw [if_pos h1, if_neg (by grind), if_pos (by grind), sw_l]
    · rw [if_neg h1]
      by_cases h2 : crossP u v < 0
      · rw [if_pos h2, if_pos (by grind), sw_r]
      · rw [if_neg h2, if_neg (by grind), if_neg (by grind), sw_b]

/-! ### pieces, one by one -/
theorem piece_mir {p : Path} {i : Nat} (h : i < p.n) : pieceAt (mir p) i = mirPc (pieceAt p i) := by
  have h1 := piece_get h
  unfold pieceAt at *
  rw [List.getD_eq_getElem?_getD]
  show ((p.ps.map mirPc)[i]?).getD _ = _
  rw [List.getElem?_map, h1]
  rfl
theorem piece_mov {p : Path} {v : Pt} {i : Nat} (h : i < p.n) : pieceAt (mov p v) i = movPc v (pieceAt p i) := by
  have h1 := piece_get h
  unfold pieceAt at *
  rw [List.getD_eq_getElem?_getD]
  show ((p.ps.map (movPc v))[i]?).getD _ = _
  rw [List.getElem?_map, h1]
  rfl
theorem piece_turned {p : Path} {i : Nat} (h : i < p.n) : pieceAt (turned p) i = revPc (beginAt p (p.n - 1 - i)) (pieceAt p (p.n - 1 - i)) := by
  unfold pieceAt
  rw [List.getD_eq_getElem?_getD]
  show (((List.range p.n).map fun j => revPc (beginAt p (p.n - 1 - j)) (pieceAt p (p.n - 1 - j)))[i]?).getD _ = _
  rw [List.getElem?_map, List.getElem?_range h]
  rfl
theorem n_mir (p : Path) : (mir p).n = p.n := by simp [mir, Path.n]
theorem n_mov (p : Path) (v : Pt) : (mov p v).n = p.n := by simp [mov, Path.n]
theorem n_turned (p : Path) : (turned p).n = p.n := by simp [turned, Path.n]
theorem to_mir (c : Pc) : (mirPc c).to = mirP c.to := by cases c <;> rfl
theorem to_mov (v : Pt) (c : Pc) : (movPc v c).to = padd c.to v := by cases c <;> rfl
theorem to_rev (b : Pt) (c : Pc) : (revPc b c).to = b := by cases c <;> rfl
theorem begin_mir {p : Path} {i : Nat} (h : i ≤ p.n) : beginAt (mir p) i = mirP (beginAt p i) := by
  unfold beginAt
  split
  · rfl
  · rw [piece_mir (by omega), to_mir]
theorem begin_mov {p : Path} {v : Pt} {i : Nat} (h : i ≤ p.n) : beginAt (mov p v) i = padd (beginAt p i) v := by
  unfold beginAt
  split
  · rfl
  · rw [piece_mov (by omega), to_mov]
theorem begin_turned {p : Path} {i : Nat} (h : i ≤ p.n) : beginAt (turned p) i = beginAt p (p.n - i) := by
  by_cases hi : i = 0
  · subst hi
    show (if (0 : Nat) = 0 then (turned p).s else _) = _
    rw [if_pos rfl]
    rfl
  · show (if i = 0 then (turned p).s else (pieceAt (turned p) (i - 1)).to) = _
    rw [if_neg hi, piece_turned (by omega), to_rev]
    congr 1
    omega
theorem begin_succ {p : Path} {i : Nat} : beginAt p (i + 1) = (pieceAt p i).to := by
  unfold beginAt
  rw [if_neg (by omega)]
  rfl
theorem mirP_inj {a b : Pt} (h : mirP a = mirP b) : a = b := by
  have h1 := congrArg Prod.fst h
  have h2 := congrArg Prod.snd h
  have e1 : -a.1 = -b.1 := h1
  ext
  · grind
  · exact h2
theorem psub_mir (a b : Pt) : psub (mirP a) (mirP b) = mirP (psub a b) := by
  unfold psub mirP
  ext
  · show -a.1 - -b.1 = -(a.1 - b.1)
    grind
  · rfl
theorem dot_mir (v : Pt) : dotP (mirP v) (mirP v) = dotP v v := by
  unfold dotP mirP
  grind
theorem psub_mov (a b v : Pt) : psub (padd a v) (padd b v) = psub a b := by
  unfold psub padd
  ext
  · show a.1 + v.1 - (b.1 + v.1) = a.1 - b.1
    grind
  · show a.2 + v.2 - (b.2 + v.2) = a.2 - b.2
    grind
theorem padd_inj {a b v : Pt} (h : padd a v = padd b v) : a = b := by
  have h1 : a.1 + v.1 = b.1 + v.1 := congrArg Prod.fst h
  have h2 : a.2 + v.2 = b.2 + v.2 := congrArg Prod.snd h
  ext <;> grind
theorem ok_mirPc {b : Pt} {c : Pc} (h : OkPc b c) : OkPc (mirP b) (mirPc c) := by
  cases c with
  | side t =>
    obtain ⟨h1, r, h0, h2⟩ := h
    exact ⟨fun z => h1 (mirP_inj z), r, h0, by rw [psub_mir, dot_mir]; exact h2⟩
  | arc m t l =>
    obtain ⟨h1, r, h0, h2, h3⟩ := h
    exact ⟨fun z => h1 (mirP_inj z), r, h0, by rw [psub_mir, dot_mir]; exact h2, by rw [psub_mir, dot_mir]; exact h3⟩
theorem ok_movPc {b v : Pt} {c : Pc} (h : OkPc b c) : OkPc (padd b v) (movPc v c) := by
  cases c with
  | side t =>
    obtain ⟨h1, r, h0, h2⟩ := h
    exact ⟨fun z => h1 (padd_inj z), r, h0, by rw [psub_mov]; exact h2⟩
  | arc m t l =>
    obtain ⟨h1, r, h0, h2, h3⟩ := h
    exact ⟨fun z => h1 (padd_inj z), r, h0, by rw [psub_mov]; exact h2, by rw [psub_mov]; exact h3⟩
theorem ok_revPc {b : Pt} {c : Pc} (h : OkPc b c) : OkPc c.to (revPc b c) := by
  cases c with
  | side t =>
    obtain ⟨h1, r, h0, h2⟩ := h
    exact ⟨fun z => h1 z.symm, r, h0, by show r * r = dotP (psub b t) (psub b t); rw [dot_sub_comm]; exact h2⟩
  | arc m t l =>
    obtain ⟨h1, r, h0, h2, h3⟩ := h
    exact ⟨fun z => h1 z.symm, r, h0, h3, h2⟩
theorem sz_mirP {n : Nat} {p : Pt} (h : SzP n p) : SzP n (mirP p) := ⟨h.x.neg, h.y⟩
theorem sz_mirPc {n : Nat} {c : Pc} (h : SzPc n c) : SzPc n (mirPc c) := by
  cases c with
  | side t => exact sz_mirP (show SzP n t from h)
  | arc m t l => exact ⟨sz_mirP h.1, sz_mirP h.2⟩
theorem ok_mir {p : Path} (h : Ok p) : Ok (mir p) :=
  ⟨by rw [n_mir]; exact h.pos, by rw [n_mir]; exact h.len, fun i hi => by
    rw [n_mir] at hi
    rw [piece_mir hi, begin_mir (Nat.le_of_lt hi)]
    exact ok_mirPc (h.ok i hi), sz_mirP h.ss, fun i hi => by
    rw [n_mir] at hi
    rw [piece_mir hi]
    exact sz_mirPc (h.sp i hi)⟩
theorem ok_mov {p : Path} {v : Pt} (h : Ok p) (hs : SzP 100 (padd p.s v)) (hp : ∀ i, i < p.n → SzPc 100 (movPc v (pieceAt p i))) : Ok (mov p v) :=
  ⟨by rw [n_mov]; exact h.pos, by rw [n_mov]; exact h.len, fun i hi => by
    rw [n_mov] at hi
    rw [piece_mov hi, begin_mov (Nat.le_of_lt hi)]
    exact ok_movPc (h.ok i hi), hs, fun i hi => by
    rw [n_mov] at hi
    rw [piece_mov hi]
    exact hp i hi⟩
theorem ok_turned {p : Path} (h : Ok p) : Ok (turned p) :=
  ⟨by rw [n_turned]; exact h.pos, by rw [n_turned]; exact h.len, fun i hi => by
    rw [n_turned] at hi
    rw [piece_turned hi, begin_turned (Nat.le_of_lt hi), show p.n - i = p.n - 1 - i + 1 by omega, begin_succ]
    exact ok_revPc (h.ok _ (by omega)), h.sb (Nat.le_refl _), fun i hi => by
    rw [n_turned] at hi
    rw [piece_turned hi]
    have hb := h.sb (i := p.n - 1 - i) (by omega)
    have hp := h.sp (p.n - 1 - i) (by omega)
    generalize beginAt p (p.n - 1 - i) = b at hb ⊢
    generalize pieceAt p (p.n - 1 - i) = c at hp ⊢
    cases c with
    | side t => exact hb
    | arc m t l => exact ⟨hp.1, hb⟩⟩

/-! ### radii -/
theorem rad_mir (c : Pc) : rad (mirPc c) = rad c := by
  cases c with
  | side t => rfl
  | arc m t l =>
    show fr (lenP (psub (mirP t) (mirP m))) = fr (lenP (psub t m))
    rw [psub_mir, lenP_congr (dot_mir _)]
theorem rad_mov (v : Pt) (c : Pc) : rad (movPc v c) = rad c := by
  cases c with
  | side t => rfl
  | arc m t l =>
    show fr (lenP (psub (padd t v) (padd m v))) = fr (lenP (psub t m))
    rw [psub_mov]
theorem rad_rev {b : Pt} {c : Pc} (h : OkPc b c) : rad (revPc b c) = rad c := by
  cases c with
  | side t => rfl
  | arc m t l =>
    obtain ⟨_, r, h0, h2, h3⟩ := h
    show fr (lenP (psub b m)) = fr (lenP (psub t m))
    rw [lenP_congr (h2.symm.trans h3)]

/-! ### closed -/
theorem closed_mir (p : Path) : closed (mir p) = closed p := by
  unfold closed
  rw [n_mir, begin_mir (Nat.le_refl _)]
  exact decide_eq_decide.mpr ⟨fun h => mirP_inj h, fun h => by rw [h]; rfl⟩
theorem closed_mov (p : Path) (v : Pt) : closed (mov p v) = closed p := by
  unfold closed
  rw [n_mov, begin_mov (Nat.le_refl _)]
  exact decide_eq_decide.mpr ⟨fun h => padd_inj h, fun h => by rw [h]; rfl⟩
theorem closed_turned (p : Path) : closed (turned p) = closed p := by
  unfold closed
  rw [n_turned, begin_turned (Nat.le_refl _), Nat.sub_self]
  exact decide_eq_decide.mpr ⟨fun h => h.symm, fun h => h.symm⟩

/-! ### headings -/
theorem unit_mir (v : Pt) : unitP (mirP v) = mirP (unitP v) := by
  unfold unitP
  rw [lenP_congr (dot_mir v)]
  unfold divP mirP
  ext
  · show -v.1 / lenP v = -(v.1 / lenP v)
    grind
  · rfl
theorem head_mir (m q : Pt) (l : Bool) : headAt (mirP m) (!l) (mirP q) = mirP (headAt m l q) := by
  unfold headAt
  rw [psub_mir, unit_mir]
  cases l with
  | true =>
    rw [if_neg (by decide), if_pos rfl]
    unfold leftP negP mirP
    ext
    · rfl
    · show - -(unitP (psub q m)).1 = (unitP (psub q m)).1
      grind
  | false =>
    rw [if_pos (show (!false) = true from rfl), if_neg (by decide)]
    unfold leftP negP mirP
    ext
    · show -(unitP (psub q m)).2 = - - -(unitP (psub q m)).2
      grind
    · rfl
theorem hB_mir (b : Pt) (c : Pc) : hB (mirP b) (mirPc c) = mirP (hB b c) := by
  cases c with
  | side t =>
    show unitP (psub (mirP t) (mirP b)) = mirP (unitP (psub t b))
    rw [psub_mir, unit_mir]
  | arc m t l => exact head_mir m b l
theorem hE_mir (b : Pt) (c : Pc) : hE (mirP b) (mirPc c) = mirP (hE b c) := by
  cases c with
  | side t =>
    show unitP (psub (mirP t) (mirP b)) = mirP (unitP (psub t b))
    rw [psub_mir, unit_mir]
  | arc m t l => exact head_mir m t l
theorem head_mov (m q v : Pt) (l : Bool) : headAt (padd m v) l (padd q v) = headAt m l q := by
  unfold headAt
  rw [psub_mov]
theorem hB_mov (b v : Pt) (c : Pc) : hB (padd b v) (movPc v c) = hB b c := by
  cases c with
  | side t =>
    show unitP (psub (padd t v) (padd b v)) = unitP (psub t b)
    rw [psub_mov]
  | arc m t l => exact head_mov m b v l
theorem hE_mov (b v : Pt) (c : Pc) : hE (padd b v) (movPc v c) = hE b c := by
  cases c with
  | side t =>
    show unitP (psub (padd t v) (padd b v)) = unitP (psub t b)
    rw [psub_mov]
  | arc m t l => exact head_mov m t v l
theorem head_not (m q : Pt) (l : Bool) : headAt m (!l) q = negP (headAt m l q) := by
  unfold headAt
  cases l with
  | true => rw [if_neg (by decide), if_pos rfl]
  | false => rw [if_pos (show (!false) = true from rfl), if_neg (by decide), neg_neg]
theorem hB_rev (b : Pt) (c : Pc) : hB c.to (revPc b c) = negP (hE b c) := by
  cases c with
  | side t =>
    show unitP (psub b t) = negP (unitP (psub t b))
    rw [psub_swap, unit_neg]
  | arc m t l => exact head_not m t l
theorem hE_rev (b : Pt) (c : Pc) : hE c.to (revPc b c) = negP (hB b c) := by
  cases c with
  | side t =>
    show unitP (psub b t) = negP (unitP (psub t b))
    rw [psub_swap, unit_neg]
  | arc m t l => exact head_not m b l

/-! ### corners -/
theorem prev_lt {p : Path} {j : Nat} (h : j < p.n) : (if j = 0 then p.n - 1 else j - 1) < p.n := by split <;> omega
theorem cw_mir {p : Path} {j : Nat} (h : j < p.n) : cw (mir p) j = swapW (cw p j) := by
  unfold cw
  have hm := prev_lt h
  rw [n_mir, piece_mir h, piece_mir hm, begin_mir (Nat.le_of_lt h), begin_mir (Nat.le_of_lt hm), hE_mir, hB_mir]
  refine word_swap ⟨fun z => by rw [z], fun z => mirP_inj z⟩ ?_
  unfold crossP mirP
  grind
theorem cw_mov {p : Path} {v : Pt} {j : Nat} (h : j < p.n) : cw (mov p v) j = cw p j := by
  unfold cw
  have hm := prev_lt h
  rw [n_mov, piece_mov h, piece_mov hm, begin_mov (Nat.le_of_lt h), begin_mov (Nat.le_of_lt hm), hE_mov, hB_mov]
def revI (n j : Nat) : Nat := if j = 0 then 0 else n - j
theorem word_rev (u v : Pt) : word (negP v) (negP u) = swapW (word u v) := by
  refine word_swap ⟨fun z => by rw [z], fun z => (neg_inj z).symm⟩ ?_
  unfold crossP negP
  grind
theorem cw_turned {p : Path} {j : Nat} (h : j < p.n) : cw (turned p) j = swapW (cw p (revI p.n j)) := by
  unfold cw
  have hm := prev_lt h
  rw [n_turned, piece_turned h, piece_turned hm, begin_turned (Nat.le_of_lt h), begin_turned (Nat.le_of_lt hm)]
  have e1 : p.n - j = p.n - 1 - j + 1 := by omega
  have e2 : p.n - (if j = 0 then p.n - 1 else j - 1) = p.n - 1 - (if j = 0 then p.n - 1 else j - 1) + 1 := by omega
  rw [e1, e2, begin_succ, begin_succ, hE_rev, hB_rev]
  have e3 : p.n - 1 - (if j = 0 then p.n - 1 else j - 1) = revI p.n j := by
    unfold revI
    split <;> omega
  have e4 : p.n - 1 - j = (if revI p.n j = 0 then p.n - 1 else revI p.n j - 1) := by
    unfold revI
    by_cases hj : j = 0
    · rw [if_pos hj, if_pos rfl, hj]
      rfl
    · rw [if_neg hj, if_neg (by omega)]
      omega
  rw [e3, ← e4]
  exact word_rev _ _
noncomputable def words (p : Path) : List Str := ((List.range p.n).filter fun j => decide (0 < j) || closed p).map (cw p)
theorem mem_rng {p : Path} {f : Nat → Bool} {j : Nat} (h : j ∈ (List.range p.n).filter f) : j < p.n := List.mem_range.mp (List.mem_filter.mp h).1
theorem words_mir (p : Path) : words (mir p) = (words p).map swapW := by
  unfold words
  rw [n_mir, closed_mir, List.map_map]
  exact List.map_congr_left fun j hj => cw_mir (mem_rng hj)
theorem words_mov (p : Path) (v : Pt) : words (mov p v) = words p := by
  unfold words
  rw [n_mov, closed_mov]
  exact List.map_congr_left fun j hj => cw_mov (mem_rng hj)
theorem words_turned (p : Path) : (words (turned p)).Perm ((words p).map swapW) := by
  have e : words (turned p) = (((List.range p.n).filter fun j => decide (0 < j) || closed p).map (revI p.n)).map fun j => swapW (cw p j) := by
    unfold words
    rw [n_turned, closed_turned, List.map_map]
    exact List.map_congr_left fun j hj => cw_turned (mem_rng hj)
  have e2 : (words p).map swapW = ((List.range p.n).filter fun j => decide (0 < j) || closed p).map fun j => swapW (cw p j) := by
    unfold words
    rw [List.map_map]
    rfl
  rw [e, e2]
  refine List.Perm.map _ ?_
  refine (List.perm_ext_iff_of_nodup ?_ (List.Pairwise.filter _ List.nodup_range)).mpr fun j => ?_
  · refine List.pairwise_map.mpr ?_
    refine List.Pairwise.imp_of_mem ?_ (List.Pairwise.filter _ (List.nodup_range (n := p.n)))
    intro a b ha hb hab
    have h1 := mem_rng ha
    have h2 := mem_rng hb
    unfold revI
    split <;> split <;> omega
  · constructor
    · intro h
      obtain ⟨i, hi, rfl⟩ := List.mem_map.mp h
      obtain ⟨h1, h2⟩ := List.mem_filter.mp hi
      have h3 := List.mem_range.mp h1
      refine List.mem_filter.mpr ⟨List.mem_range.mpr ?_, ?_⟩
      · unfold revI
        split <;> omega
      · unfold revI
        split
        · rename_i z
          rw [z] at h2
          exact h2
        · rw [decide_eq_true (show 0 < p.n - i by omega)]
          rfl
    · intro h
      obtain ⟨h1, h2⟩ := List.mem_filter.mp h
      have h3 := List.mem_range.mp h1
      refine List.mem_map.mpr ⟨revI p.n j, List.mem_filter.mpr ⟨List.mem_range.mpr ?_, ?_⟩, ?_⟩
      · unfold revI
        split <;> omega
      · unfold revI
        split
        · rename_i z
          rw [z] at h2
          exact h2
        · rw [decide_eq_true (show 0 < p.n - j by omega)]
          rfl
      · unfold revI
        split
        · rename_i z
          rw [if_pos rfl, z]
        · rw [if_neg (by omega)]
          omega
theorem words_wd (p : Path) : ∀ x ∈ words p, Wd x := fun x hx => by
  obtain ⟨j, _, rfl⟩ := List.mem_map.mp hx
  exact word_wd _ _

/-! ### undone -/
theorem path_ext {p q : Path} (h1 : p.s = q.s) (hn : p.n = q.n) (h : ∀ i, i < p.n → pieceAt p i = pieceAt q i) : p = q := by
  obtain ⟨s, ps⟩ := p
  obtain ⟨t, qs⟩ := q
  have e1 : s = t := h1
  subst e1
  congr 1
  refine List.ext_getElem hn fun i hi hj => ?_
  have h2 := h i hi
  have g1 := piece_get (p := ⟨s, ps⟩) (i := i) hi
  have g2 := piece_get (p := ⟨s, qs⟩) (i := i) hj
  rw [h2] at g1
  have g3 : ps[i]? = qs[i]? := g1.trans g2.symm
  rw [List.getElem?_eq_getElem hi, List.getElem?_eq_getElem hj] at g3
  exact Option.some.inj g3
theorem mir_mir (p : Path) : mir (mir p) = p := by
  refine path_ext ?_ (by rw [n_mir, n_mir]) fun i hi => ?_
  · show mirP (mirP p.s) = p.s
    unfold mirP
    ext
    · show - -p.s.1 = p.s.1
      grind
    · rfl
  · rw [n_mir, n_mir] at hi
    rw [piece_mir (by rw [n_mir]; exact hi), piece_mir hi]
    have mm : ∀ a : Pt, mirP (mirP a) = a := fun a => by
      unfold mirP
      ext
      · show - -a.1 = a.1
        grind
      · rfl
    cases pieceAt p i with
    | side t =>
      show Pc.side (mirP (mirP t)) = _
      rw [mm]
    | arc m t l =>
      show Pc.arc (mirP (mirP m)) (mirP (mirP t)) (!!l) = _
      rw [mm, mm, Bool.not_not]
theorem mov_mov (p : Path) (v : Pt) : mov (mov p v) (negP v) = p := by
  have mm : ∀ a : Pt, padd (padd a v) (negP v) = a := fun a => by
    unfold padd negP
    ext
    · show a.1 + v.1 + -v.1 = a.1
      grind
    · show a.2 + v.2 + -v.2 = a.2
      grind
  refine path_ext (mm p.s) (by rw [n_mov, n_mov]) fun i hi => ?_
  rw [n_mov, n_mov] at hi
  rw [piece_mov (by rw [n_mov]; exact hi), piece_mov hi]
  cases pieceAt p i with
  | side t =>
    show Pc.side (padd (padd t v) (negP v)) = _
    rw [mm]
  | arc m t l =>
    show Pc.arc (padd (padd m v) (negP v)) (padd (padd t v) (negP v)) l = _
    rw [mm, mm]
theorem turned_turned (p : Path) : turned (turned p) = p := by
  refine path_ext ?_ (by rw [n_turned, n_turned]) fun i hi => ?_
  · show beginAt (turned p) (turned p).n = p.s
    rw [n_turned, begin_turned (Nat.le_refl _), Nat.sub_self]
    rfl
  · rw [n_turned, n_turned] at hi
    rw [piece_turned (by rw [n_turned]; exact hi), n_turned, piece_turned (by omega), begin_turned (by omega), show p.n - 1 - (p.n - 1 - i) = i by omega, show p.n - (p.n - 1 - i) = i + 1 by omega, begin_succ]
    cases pieceAt p i with
    | side t => rfl
    | arc m t l =>
      show Pc.arc m t (!!l) = _
      rw [Bool.not_not]
end SC

set_option maxHeartbeats 4000000
/-! sorted words; words exchanged; the law's looks -/
namespace SC
open PySem PySem.Spec PyProof.Rows L2 RZ
/-! ### texts sorted -/
def leS (a b : Str) : Bool := !ltCps b.cps.toList a.cps.toList
theorem leS_iff {a b : Str} : leS a b = true ↔ a.cps.toList ≤ b.cps.toList := by
  unfold leS
  rw [ltCps_eq]
  simp
theorem leS_trans (a b c : Str) (h1 : leS a b = true) (h2 : leS b c = true) : leS a c = true := leS_iff.mpr (List.le_trans (leS_iff.mp h1) (leS_iff.mp h2))
theorem leS_total (a b : Str) : (leS a b || leS b a) = true := by
  rw [Bool.or_eq_true]
  rcases List.le_total a.cps.toList b.cps.toList with h | h
  · exact .inl (leS_iff.mpr h)
  · exact .inr (leS_iff.mpr h)
theorem leS_anti {a b : Str} (h1 : leS a b = true) (h2 : leS b a = true) : a = b := by
  have e := List.le_antisymm (leS_iff.mp h1) (leS_iff.mp h2)
  obtain ⟨x⟩ := a
  obtain ⟨y⟩ := b
  have e2 : x.toList = y.toList := e
  rw [Array.toList_inj.mp e2]
theorem rising_pw : ∀ (l : List Str) (p : Str), risingS p l = true → (p :: l).Pairwise fun a b => leS a b = true
  | [], p, _ => by simp
  | x :: r, p, h => by
    have h' : (!ltCps x.cps.toList p.cps.toList && risingS x r) = true := h
    obtain ⟨h1, h2⟩ := Bool.and_eq_true_iff.mp h'
    have ih := rising_pw r x h2
    refine List.Pairwise.cons (fun b hb => ?_) ih
    rcases List.mem_cons.mp hb with rfl | hb
    · exact h1
    · exact leS_trans p x b h1 ((List.pairwise_cons.mp ih).1 b hb)
theorem sorted_pw {l : List Str} (h : sortedS l = true) : l.Pairwise fun a b => leS a b = true := by
  cases l with
  | nil => exact .nil
  | cons x r => exact rising_pw r x h
def srtS (xs : List Str) : List Str := xs.mergeSort leS
theorem srtS_eq {xs ys : List Str} (p : ys.Perm xs) (h : sortedS ys = true) : ys = srtS xs :=
  List.Perm.eq_of_pairwise (fun a b _ _ h1 h2 => leS_anti h1 h2) (sorted_pw h) (List.pairwise_mergeSort leS_trans leS_total xs) (p.trans (List.mergeSort_perm xs leS).symm)
theorem srtS_congr {xs ys : List Str} (p : xs.Perm ys) : srtS xs = srtS ys :=
  List.Perm.eq_of_pairwise (fun a b _ _ h1 h2 => leS_anti h1 h2) (List.pairwise_mergeSort leS_trans leS_total xs) (List.pairwise_mergeSort leS_trans leS_total ys) ((List.mergeSort_perm xs leS).trans (p.trans (List.mergeSort_perm ys leS).symm))
theorem srtS_perm (xs : List Str) : (srtS xs).Perm xs := List.mergeSort_perm xs leS
section
variable {X : Cx} {N : List Str} {sc : Scope} {k : Nat} {ρ : Rho} {e f : Expr} {p p2 pos : Pos}
theorem pd_sortS {xs : List Str} (c : Ctx X N sc k) (fr : X.mg "sorted" = none) (ha : PD X e ρ (.list (xs.map .str))) (h64 : xs.length < 64) (hg : sc.names.lookup ("sorted" : Str) = some .globalImplicit := by rfl) (ns : NoStar e := by exact fun _ _ => rfl) :
    PD X (.Call (.Name "sorted" p) [e] [] pos) ρ (.list ((srtS xs).map .str)) :=
  PD.mk (pe_callB cr_sortedS (c.gl hg) fr PyProof.Rows.boot_sorted (pa_cons pe_W pa_nil (ns _ _)) (he := ns _ _)) fun σ H E Q q => ha σ H E _ fun v H1 s1 hv => by
    cases hv with
    | lst h1 h2 =>
      rw [h2.strs] at h1
      refine ⟨_, xs, rfl, SqL.of h1, h64, fun ys l py sy nl => ?_⟩
      rw [srtS_eq py sy]
      exact q _ _ (s1.trans (same_upd nl)) (.lst upd_same (DqA.of_strs _))
theorem val_swap (x : Str) : (valV (mergeK [] [((Sum.inr "left" : Key), V.str "right"), (Sum.inr "right", V.str "left")]) (Sum.inr x)).getD (.str x) = .str (swapW x) := by
  have e : mergeK [] [((Sum.inr "left" : Key), V.str "right"), (Sum.inr "right", V.str "left")] = [((Sum.inr "left" : Key), V.str "right"), (Sum.inr "right", V.str "left")] := by decide +kernel
  rw [e]
  unfold valV swapW
  by_cases h1 : x = "left"
  · subst h1
    decide +kernel
  · by_cases h2 : x = "right"
    · subst h2
      decide +kernel
    · have g1 : ¬ (Sum.inr "left" : Key) = Sum.inr x := fun z => h1 (Sum.inr.inj z).symm
      have g2 : ¬ (Sum.inr "right" : Key) = Sum.inr x := fun z => h2 (Sum.inr.inj z).symm
      rw [if_neg h1, if_neg h2]
      simp only [List.find?, decide_eq_false g1, decide_eq_false g2]
      rfl
/-- {"left": "right", "right": "left"}.get(e, f) -/
theorem pd_swap {x : Str} {a b a' b' : Nat} {q1 q2 q3 q4 dp ap cp : Pos} (c : Ctx X N sc k) (he : PD X e ρ (.str x)) (hf : PD X f ρ (.str x))
    (m : M2 X (.Dict [some (.Constant (.str "left") a q1), some (.Constant (.str "right") b q2)] [.Constant (.str "right") a' q3, .Constant (.str "left") b' q4] dp) "get" ap e f cp) :
    PD X (.Call (.Attribute (.Dict [some (.Constant (.str "left") a q1), some (.Constant (.str "right") b q2)] [.Constant (.str "right") a' q3, .Constant (.str "left") b' q4] dp) "get" ap) [e, f] [] cp) ρ (.str (swapW x)) :=
  PD.mk (pe_dget2 c.hu (pe_disp (pps_cons pe_str pe_str (pps_cons pe_str pe_str pps_nil)) rfl rfl (by simp) (Nat.le_of_ble_eq_true rfl)) pe_W pe_W m) fun σ H E Q q => fun l nl => by
    refine ⟨upd_same, [((Sum.inr "left" : Key), V.str "right"), (Sum.inr "right", V.str "left")], rfl, by decide, ?_⟩
    have s0 : Same H (upd (upd H l (.dK [])) l (.dK (mergeK [] [((Sum.inr "left" : Key), V.str "right"), (Sum.inr "right", V.str "left")]))) := fun b o e => by
      rw [upd_upd, upd_ne (ne_of_none e nl)]
      exact e
    refine ⟨l, rfl, .inl ⟨_, .inl upd_same⟩, ?_⟩
    refine he σ _ (E.mono s0) _ fun v H2 s2 hv => ?_
    refine hf σ H2 (E.mono (s0.trans s2)) _ fun w H3 s3 hw => ?_
    cases hv
    cases hw
    refine ⟨_, DGet.k (k := Sum.inr x) (s3 _ _ (s2 _ _ upd_same)), ?_⟩
    rw [val_swap]
    exact q _ H3 (s0.trans (s2.trans s3)) (.str _)
end
theorem pg_pair {X X' : Cx} {scope : Scope} {N : List Str} {sc : Scope} {k kk : Nat} {x y : Str} {p1 p2 pos : Pos} (h : InBlk X scope X') (c : Ctx X' N sc k) (i j : Nat) (hi : N[i]? = some x := by rfl) (hj : N[j]? = some y := by rfl)
    (hx : sc.names.lookup x = some .local := by rfl) (hy : sc.names.lookup y = some .local := by rfl) : PG X' (.Tuple [.Name x p1, .Name y p2] kk pos) (gTup X.K 2 (gCons (gName i) (gCons (gName j) gNil))) := by
  rw [← h.same.K]
  exact pg_tup c.calm (pgs_cons (pg_blk c i hi hx) (pgs_cons (pg_blk c j hj hy) pgs_nil))
/-! ### the law's looks -/
noncomputable def done (p : Path) (k : Int) (v : Pt) : Path := if k = 2 then mov p v else if k = 1 then mir p else turned p
def ptDone (q : Pt) (k : Int) (v : Pt) : Pt := if k = 1 then mirP q else if k = 2 then padd q v else q
def PL_done : List PyData → PyData → Prop := fun ds d => ∃ p k v, ds = [pathD p, .int k, pt v] ∧ Ok p ∧ SzP 1000 v ∧ d = pathD (done p k v)
def PL_point_done : List PyData → PyData → Prop := fun ds d => ∃ q k v, ds = [pt q, .int k, pt v] ∧ SzP 1000 q ∧ SzP 1000 v ∧ d = pt (ptDone q k v)
def PL_words : List PyData → PyData → Prop := fun ds d => ∃ p, ds = [pathD p] ∧ Ok p ∧ d = .list ((srtS (words p)).map .str)
def PL_units_right : List PyData → PyData → Prop := fun ds d => ∃ p, ds = [pathD p] ∧ Ok p ∧ d = .bool true
theorem sz_one {n : Nat} : Sz (n + 1) 1 := ⟨by show 1 < 2 ^ (n + 1); rw [Nat.pow_succ]; have := Nat.pow_pos (n := n) (show 0 < 2 by decide); omega, by show 1 < 2 ^ (n + 1); rw [Nat.pow_succ]; have := Nat.pow_pos (n := n) (show 0 < 2 by decide); omega⟩
theorem eqi {i j : Int} : PyData.eqv (.int i) (.int j) = decide (i = j) := by
  simp [PyData.eqv]
  rfl
theorem words_len {p : Path} (h : Ok p) : (words p).length < 64 := by
  unfold words
  rw [List.length_map]
  have h1 := List.length_filter_le (fun j => decide (0 < j) || closed p) (List.range p.n)
  rw [List.length_range] at h1
  have := h.len
  omega
section
variable {P : Program} {w : World} {K : PySem.W.Frag} {mg : Str → Option Value} {base : Heap}
theorem kl_done (A : At K mg "_law_done" s68) (g1 : Kn P w K mg base "moved" ["path", "vector"] (spP K PR_moved) 6) (g2 : Kn P w K mg base "mirrored" ["path"] (spP K PR_mirrored) 3) (g3 : Kn P w K mg base "turned_about" ["path"] (spP K PR_turned_about) 3) :
    Kn P w K mg base "_law_done" ["_law_path_here", "_law_deed", "_law_by"] (spP K PL_done) 7 := by
  refine def_ok A sc68 (by rintro _ _ ⟨a, b, _, rfl, _⟩; rfl) (fun _ _ _ _ _ _ us hl => match us, hl with | [_, _, _], _ => rfl) ?_
  rintro X rfl rfl rfl rfl rfl c he _ _ ⟨p, k, v, rfl, hp, hv, rfl⟩
  have cc := c.toCtx
  unfold done
  by_cases h2 : k = 2
  · rw [if_pos h2]
    exact psd_ifT (pdt_eqT cc (pd_var cc 1) pd_int (by rw [eqi, decide_eq_true h2])) (psd_ret (pd_call cc g1 (pda_cons (pd_var cc 0) (pda_cons (pd_var cc 2) pda_nil)) ⟨p, v, rfl, hp, hv, rfl⟩) rfl)
  · rw [if_neg h2]
    refine psd_skip (pdt_eqF cc (pd_var cc 1) pd_int (by rw [eqi, decide_eq_false h2])) ?_
    by_cases h1 : k = 1
    · rw [if_pos h1]
      exact psd_ret (pd_ifT (pdt_eqT cc (pd_var cc 1) pd_int (by rw [eqi, decide_eq_true h1])) (pd_call cc g2 (pda_cons (pd_var cc 0) pda_nil) ⟨p, rfl, hp, rfl⟩)) rfl
    · rw [if_neg h1]
      exact psd_ret (pd_ifF (pdt_eqF cc (pd_var cc 1) pd_int (by rw [eqi, decide_eq_false h1])) (pd_call cc g3 (pda_cons (pd_var cc 0) pda_nil) ⟨p, rfl, hp, rfl⟩)) rfl
theorem kl_point_done (A : At K mg "_law_point_done" s69) (g1 : Kn P w K mg base "_law_fr" ["_law_top", "_law_bottom"] (spP K PL_fr) 1) (g2 : Kn P w K mg base "_law_on" ["_law_point", "_law_vector", "_law_by"] (spP K PL_on) 3) :
    Kn P w K mg base "_law_point_done" ["_law_point", "_law_deed", "_law_by"] (spP K PL_point_done) 4 := by
  refine def_ok A sc69 (by rintro _ _ ⟨a, b, _, rfl, _⟩; rfl) (fun _ _ _ _ _ _ us hl => match us, hl with | [_, _, _], _ => rfl) ?_
  rintro X rfl rfl rfl rfl rfl c he _ _ ⟨q, k, v, rfl, hq, hv, rfl⟩
  have cc := c.toCtx
  unfold ptDone
  by_cases h1 : k = 1
  · rw [if_pos h1]
    refine psd_ifT (pdt_eqT cc (pd_var cc 1) pd_int (by rw [eqi, decide_eq_true h1])) (psd_ret (pd_tup (pda_cons (pd_call cc g1 (pda_cons (pd_neg (pd_ixT (pd_ixT (pd_var cc 0) pd_int) pd_int)) (pda_cons (pd_ixT (pd_ixT (pd_var cc 0) pd_int) pd_int) pda_nil)) ⟨_, _, rfl, den_p q.1, lt_pow hq.x.dn (by decide), rfl⟩) (pda_cons (pd_ixT (pd_var cc 0) pd_int) pda_nil))) ?_)
    rw [neg_di]
    rfl
  · rw [if_neg h1]
    refine psd_skip (pdt_eqF cc (pd_var cc 1) pd_int (by rw [eqi, decide_eq_false h1])) ?_
    by_cases h2 : k = 2
    · rw [if_pos h2]
      refine psd_ret (pd_ifT (pdt_eqT cc (pd_var cc 1) pd_int (by rw [eqi, decide_eq_true h2])) (pd_call cc g2 (pda_cons (pd_var cc 0) (pda_cons (pd_var cc 2) (pda_cons (pd_tup (pda_cons pd_int (pda_cons pd_int pda_nil))) pda_nil))) ⟨q, v, 1, rfl, hq.mono (by decide), hv.mono (by decide), sz_one (n := 1999), rfl⟩)) ?_
      show pt (q.1 + v.1 * 1, q.2 + v.2 * 1) = pt (q.1 + v.1, q.2 + v.2)
      rw [Rat.mul_one, Rat.mul_one]
    · rw [if_neg h2]
      exact psd_ret (pd_ifF (pdt_eqF cc (pd_var cc 1) pd_int (by rw [eqi, decide_eq_false h2])) (pd_var cc 0)) rfl
theorem cD_inj {a b : Nat × Str} (h : cD a.1 a.2 = cD b.1 b.2) : a = b := by
  unfold cD at h
  injection h with h
  injection h with h1 h
  injection h with h2 _
  injection h1 with h1
  injection h2 with h2
  exact Prod.ext (by omega) h2
theorem kl_words (A : At K mg "_law_words" s70) (f : Fr mg) (g : Kn P w K mg base "corners" ["path"] (spP K PR_corners) 9) : Kn P w K mg base "_law_words" ["_law_path_here"] (spP K PL_words) 10 := by
  refine def_ok A sc70 (by rintro _ _ ⟨a, rfl, _⟩; rfl) (fun _ _ _ _ _ _ us hl => match us, hl with | [_], _ => rfl) ?_
  rintro X rfl rfl rfl rfl rfl c he _ _ ⟨p, rfl, hp, rfl⟩
  have cc := c.toCtx
  have hv : ∀ a : Nat × Str, onD (fun a : Nat × Str => cD a.1 a.2) (fun a => .str a.2) (cD a.1 a.2) = .str a.2 := onD_eq (enc := fun a : Nat × Str => cD a.1 a.2) fun a b => cD_inj
  have hm : ∀ d ∈ cornersL p, ∃ j x, d = cD j x := fun d hd => by
    obtain ⟨j, _, rfl⟩ := List.mem_map.mp hd
    exact ⟨_, _, rfl⟩
  refine psd_ret (pd_sortS cc f.b_sorted (PD.eq (pd_lc cc [("_law_number", 1), ("_law_word", 2)] (fun d ρ => match d with
      | .tuple [a, b] => (ρ.set 1 (some a)).set 2 (some b)
      | _ => ρ) (fun _ => true) (onD (fun a : Nat × Str => cD a.1 a.2) fun a => .str a.2) (by decide +kernel) (pdi_list (pd_call cc g (pda_cons (pd_var cc 0) pda_nil) ⟨p, rfl, hp, rfl⟩)) (Nat.le_trans (cornersTo_len p p.n) (Nat.le_trans hp.len (by decide))) (fun d hd _ => ?_)
      (fun X' hX c' => pg_pair hX c' 1 2) (fun d hd => ?_) (fun X' _ c' d _ => pdts_nil) (fun X' hX c' d hd _ => ?_)) ?_) (words_len hp)) rfl
  · obtain ⟨j, x, rfl⟩ := hm d hd
    rw [hv (j, x)]
    rfl
  · obtain ⟨j, x, rfl⟩ := hm d hd
    exact gd_tup2 (by decide) (by decide)
  · obtain ⟨j, x, rfl⟩ := hm d hd
    rw [hv (j, x)]
    exact pd_var c' 2
  · rw [List.filter_eq_self.mpr (fun _ _ => rfl)]
    unfold cornersL cornersTo words
    rw [List.map_map, List.map_map]
    congr 1
    exact List.map_congr_left fun j _ => hv (j, cw p j)
end
end SC

set_option maxHeartbeats 4000000
/-! the law's looks at units and at deeds -/
namespace SC
open PySem PySem.Spec PyProof.Rows L2 RZ
theorem range_rev {α : Type} (f : Nat → α) (m : Nat) : (List.range m).map (fun i => f (m - 1 - i)) = ((List.range m).map f).reverse := by
  apply List.ext_getElem?
  intro i
  by_cases hi : i < m
  · rw [List.getElem?_map, List.getElem?_range hi, List.getElem?_reverse (by simpa using hi), List.getElem?_map, List.length_map, List.length_range, List.getElem?_range (by omega)]
    rfl
  · rw [List.getElem?_eq_none (by simpa using hi), List.getElem?_eq_none (by simpa using hi)]
theorem n_done (p : Path) (k : Int) (v : Pt) : (done p k v).n = p.n := by
  unfold done
  split
  · exact n_mov p v
  · split
    · exact n_mir p
    · exact n_turned p
theorem ends_done (p : Path) (k : Int) (v : Pt) (hk : k = 0 ∨ k = 1 ∨ k = 2) : endsL (done p k v) = if k = 0 then ((List.range (p.n + 1)).map fun i => pt (ptDone (beginAt p i) k v)).reverse else (List.range (p.n + 1)).map fun i => pt (ptDone (beginAt p i) k v) := by
  unfold endsL
  rw [n_done]
  rcases hk with rfl | rfl | rfl
  · rw [if_pos rfl, ← range_rev]
    refine List.map_congr_left fun i hi => ?_
    have := List.mem_range.mp hi
    show pt (beginAt (turned p) i) = pt (beginAt p (p.n + 1 - 1 - i))
    rw [begin_turned (by omega)]
    rfl
  · rw [if_neg (by decide)]
    refine List.map_congr_left fun i hi => ?_
    have := List.mem_range.mp hi
    show pt (beginAt (mir p) i) = pt (mirP (beginAt p i))
    rw [begin_mir (by omega)]
  · rw [if_neg (by decide)]
    refine List.map_congr_left fun i hi => ?_
    have := List.mem_range.mp hi
    show pt (beginAt (mov p v) i) = pt (padd (beginAt p i) v)
    rw [begin_mov (by omega)]
noncomputable def radsL (p : Path) : List PyData := (List.range p.n).map fun i => rad (pieceAt p i)
theorem rads_done {p : Path} (h : Ok p) (k : Int) (v : Pt) (hk : k = 0 ∨ k = 1 ∨ k = 2) : radsL (done p k v) = if k = 0 then (radsL p).reverse else radsL p := by
  unfold radsL
  rw [n_done]
  rcases hk with rfl | rfl | rfl
  · rw [if_pos rfl, ← range_rev]
    refine List.map_congr_left fun i hi => ?_
    have := List.mem_range.mp hi
    show rad (pieceAt (turned p) i) = _
    rw [piece_turned (by omega), rad_rev (h.ok _ (by omega))]
  · rw [if_neg (by decide)]
    refine List.map_congr_left fun i hi => ?_
    have := List.mem_range.mp hi
    show rad (pieceAt (mir p) i) = _
    rw [piece_mir (by omega), rad_mir]
  · rw [if_neg (by decide)]
    refine List.map_congr_left fun i hi => ?_
    have := List.mem_range.mp hi
    show rad (pieceAt (mov p v) i) = _
    rw [piece_mov (by omega), rad_mov]
theorem closed_done (p : Path) (k : Int) (v : Pt) : closed (done p k v) = closed p := by
  unfold done
  split
  · exact closed_mov p v
  · split
    · exact closed_mir p
    · exact closed_turned p
theorem words_done (p : Path) (k : Int) (v : Pt) (hk : k = 0 ∨ k = 1 ∨ k = 2) : srtS (words (done p k v)) = if k < 2 then srtS ((srtS (words p)).map swapW) else srtS (words p) := by
  have h : (srtS ((srtS (words p)).map swapW)) = srtS ((words p).map swapW) := srtS_congr ((srtS_perm _).map _)
  rw [h]
  rcases hk with rfl | rfl | rfl
  · rw [if_pos (by decide)]
    exact srtS_congr (words_turned p)
  · rw [if_pos (by decide)]
    show srtS (words (mir p)) = _
    rw [words_mir]
  · rw [if_neg (by decide)]
    show srtS (words (mov p v)) = _
    rw [words_mov]
theorem pl_rad (c : Pc) : pl (rad c) = true := by cases c <;> rfl
theorem tupd_rad (c : Pc) : tupd (rad c) = true := by cases c <;> rfl
theorem sh_rad (c : Pc) : Sh 1 (rad c) := by
  cases c with
  | side t => exact Sh.none
  | arc m t l => exact sh_fr _
theorem sh_wd {x : Str} (h : Wd x) : Sh 0 (.str x) := by
  rcases h with rfl | rfl | rfl | rfl <;> exact ⟨by decide +kernel, by simp [PyData.depth]⟩
theorem swap_wd {x : Str} (h : Wd x) : Wd (swapW x) := by
  rcases h with rfl | rfl | rfl | rfl
  · rw [sw_s]
    exact .inl rfl
  · rw [sw_l]
    exact .inr (.inr (.inl rfl))
  · rw [sw_r]
    exact .inr (.inl rfl)
  · rw [sw_b]
    exact .inr (.inr (.inr rfl))
theorem sh_strs {xs : List Str} (h : ∀ x ∈ xs, Wd x) : Sh 1 (.list (xs.map .str)) := Sh.list fun d hd => by
  obtain ⟨x, hx, rfl⟩ := List.mem_map.mp hd
  exact sh_wd (h x hx)
theorem pl_strs (xs : List Str) : pl (.list (xs.map .str)) = true := by
  show plA (xs.map .str) = true
  exact plA_all.mpr fun d hd => by
    obtain ⟨x, hx, rfl⟩ := List.mem_map.mp hd
    rfl
theorem q_sa : PyData.eqv (.str "side") (.str "arc") = false := by decide +kernel
def PL_deed_right : List PyData → PyData → Prop := fun ds d => ∃ p k v, ds = [pathD p, pathD (done p k v), .int k, pt v] ∧ Ok p ∧ Ok (done p k v) ∧ (k = 0 ∨ k = 1 ∨ k = 2) ∧ SzP 1000 v ∧ d = .bool true
section
variable {P : Program} {w : World} {K : PySem.W.Frag} {mg : Str → Option Value} {base : Heap}
theorem kl_units_right (A : At K mg "_law_units_right" s67) (f : Fr mg) (g1 : Kn P w K mg base "_law_begins" ["_law_path_here"] (spP K PL_begins) 2) (g2 : Kn P w K mg base "headings" ["path", "number"] (spP K PR_headings) 8) (g3 : Kn P w K mg base "radius_of" ["path", "number"] (spP K PR_radius_of) 6)
    (g4 : Kn P w K mg base "_law_dot" ["_law_one", "_law_other"] (spP K PL_dot) 3) (g5 : Kn P w K mg base "_law_to" ["_law_piece"] (spP K PL_to) 1) (g6 : Kn P w K mg base "_law_left" ["_law_vector"] (spP K PL_left) 2) (g7 : Kn P w K mg base "_law_about" ["_law_vector"] (spP K PL_about) 3)
    (g8 : Kn P w K mg base "_law_on" ["_law_point", "_law_vector", "_law_by"] (spP K PL_on) 3) : Kn P w K mg base "_law_units_right" ["_law_path_here"] (spP K PL_units_right) 9 := by
  refine def_ok A sc67 (by rintro _ _ ⟨a, rfl, _⟩; rfl) (fun _ _ _ _ _ _ us hl => match us, hl with | [_], _ => rfl) ?_
  rintro X rfl rfl rfl rfl rfl c he _ _ ⟨p, rfl, hp, rfl⟩
  have cc := c.toCtx
  refine psd_set c 1 (pd_call cc g1 (pda_cons (pd_var cc 0) pda_nil) ⟨p, rfl, hp, rfl⟩) ?_
  refine psd_for c (fun d ρ => match d with
      | .tuple [a, b] => (ρ.set 2 (some a)).set 3 (some b)
      | _ => ρ) [2, 3] (fun i ρ => ∃ a b c d e f g, ρ = [some (pathD p), some (.list ((List.range p.n).map fun i => pt (beginAt p i))), a, b, c, d, e, f, g]) (pdi_enT cc f.b_enumerate (pd_ixT (pd_var cc 0) pd_int))
    (pg_tup c.calm (pgs_cons (pg_of c 2) (pgs_cons (pg_of c 3) pgs_nil))) (fun d hd => ?_) ⟨_, _, _, _, _, _, _, rfl⟩ ?_ ?_
  · obtain ⟨i, hi⟩ := List.mem_iff_getElem?.mp hd
    obtain ⟨e, _, rfl⟩ := enD_get _ _ hi
    exact gd_tup2 (by decide) (by decide)
  · rintro i d _ hd ⟨z1, z2, z3, z4, z5, z6, z7, rfl⟩
    obtain ⟨e, he1, rfl⟩ := enD_get _ _ hd
    rw [Nat.zero_add]
    have hlt : i < p.n := by
      have := (List.getElem?_eq_some_iff.mp he1).1
      rw [lenD] at this
      exact this
    rw [pieceD_get hlt] at he1
    cases he1
    have ho := hp.ok i hlt
    have hs := hp.sp i hlt
    have hb := hp.sb (Nat.le_of_lt hlt)
    have sB := sz_hB hb hs ho
    have sE := sz_hE hb hs ho
    have dB := dot_hB ho
    have dE := dot_hE ho
    have hbeg : atI ((List.range p.n).map fun i => pt (beginAt p i)) ((i : Nat) : Int) = some (pt (beginAt p i)) := by
      apply atI_nat
      rw [List.getElem?_map, List.getElem?_range hlt]
      rfl
    refine psd_par c 4 5 (pd_call cc g2 (pda_cons (pd_var cc 0) (pda_cons (pd_var cc 2) pda_nil)) ⟨p, i, rfl, hp, hlt, rfl⟩) (pd_call cc g3 (pda_cons (pd_var cc 0) (pda_cons (pd_var cc 2) pda_nil)) ⟨p, i, rfl, hp, hlt, rfl⟩) ?_ (by obtain ⟨q, n, f, cd, he⟩ := he; rw [he]; rfl)
    generalize beginAt p i = b at ho hb sB sE dB dE hbeg ⊢
    generalize pieceAt p i = pc at ho hs sB sE dB dE ⊢
    refine psd_skip (pdt_val (pd_any (bs := [false, false]) cc f.b_any (PD.eq (pd_lc cc [("_law_unit_here", 6)] (fun d ρ => ρ.set 6 (some d)) (fun _ => true) (fun _ => .bool false) (by decide +kernel) (pdi_tup (pd_var cc 4)) (by exact Nat.le_of_ble_eq_true rfl) (fun _ _ _ => rfl)
      (fun X' _ c' => pg_blk c' 6) (fun d _ => gd_name (by decide)) (fun X' _ c' d _ => pdts_nil) (fun X' hX c' d hd _ => ?_)) rfl))) ?_
    · have hu : ∃ u, d = pt u ∧ SzP 1900 u ∧ dotP u u = 1 := by
        rcases List.mem_cons.mp hd with rfl | hd
        · exact ⟨_, rfl, sB, dB⟩
        · rcases List.mem_cons.mp hd with rfl | hd
          · exact ⟨_, rfl, sE, dE⟩
          · cases hd
      obtain ⟨u, rfl, su, du⟩ := hu
      refine pd_neF c' (pd_call c' (g4.blkP hX.same) (pda_cons (pd_var c' 6) (pda_cons (pd_var c' 6) pda_nil)) ⟨u, u, rfl, su, su, rfl⟩) (pd_tup (pda_cons pd_int (pda_cons pd_int pda_nil))) ?_
      rw [du]
      exact eqv_rf _ rfl
    cases pc with
    | side t =>
      refine psd_skip (pdt_w (pw_andT (pdt_eqT cc (pd_ixT (pd_var cc 3) pd_int) pd_str q_ss h_side h_side) (pdw_and1 (pdt_w (pw_orF (pdt_notNF (pd_var cc 5) pd_non) (pdw_or1 (pdt_neF cc (pd_ixT (pd_var cc 4) pd_int) (pd_ixT (pd_var cc 4) pd_int) (eqv_rf _ rfl)))))))) ?_
      refine psd_for c (fun d ρ => match d with
          | .tuple [a, b] => (ρ.set 7 (some a)).set 6 (some b)
          | _ => ρ) [6, 7] (fun j ρ => ∃ a b' c, ρ = [some (pathD p), some (.list ((List.range p.n).map fun i => pt (beginAt p i))), some (.int ((i : Nat) : Int)), some (pcD (.side t)), some (.tuple [pt (hB b (.side t)), pt (hE b (.side t))]), some .none, a, b', c])
        (pdi_zipT cc f.b_zip (pd_tup (pda_cons (pd_ixL (pd_var cc 1) (pd_var cc 2) hbeg) (pda_cons (pd_call cc g5 (pda_cons (pd_var cc 3) pda_nil) ⟨_, rfl, rfl⟩) pda_nil))) (pd_var cc 4))
        (pg_tup c.calm (pgs_cons (pg_of c 7) (pgs_cons (pg_of c 6) pgs_nil))) (fun d hd => ?_) ⟨_, _, _, rfl⟩ ?_ ?_
      · obtain ⟨j, hj⟩ := List.mem_iff_getElem?.mp hd
        obtain ⟨x, y, _, _, rfl⟩ := zipD_get _ _ hj
        exact gd_tup2 (by decide) (by decide)
      · rintro j d _ hd ⟨y1, y2, y3, rfl⟩
        obtain ⟨x, y, _, _, rfl⟩ := zipD_get _ _ hd
        exact psd_skip (pdt_eqF cc (pd_ixT (pd_var cc 3) pd_int) pd_str q_sa h_side h_arc) (psd_nil ⟨_, _, _, rfl⟩)
      · rintro _ ⟨y1, y2, y3, rfl⟩
        exact psd_nil ⟨_, _, _, _, _, _, _, rfl⟩
    | arc m t l =>
      obtain ⟨hne, r, h0, hr, hr2⟩ := ho
      obtain ⟨hm, ht⟩ := hs
      have er : lenP (psub t m) = r := lenP_eq (Rat.le_of_lt h0) hr2
      have hsr : Sz 2000 r := ((ht.sub hm).len hr2).mono (by decide)
      refine psd_skip (pdt_w (pw_andF (pdt_eqF cc (pd_ixT (pd_var cc 3) pd_int) pd_str q_as h_arc h_side))) ?_
      refine psd_for c (fun d ρ => match d with
          | .tuple [a, b] => (ρ.set 7 (some a)).set 6 (some b)
          | _ => ρ) [6, 7] (fun j ρ => ∃ a b' c, ρ = [some (pathD p), some (.list ((List.range p.n).map fun i => pt (beginAt p i))), some (.int ((i : Nat) : Int)), some (pcD (.arc m t l)), some (.tuple [pt (hB b (.arc m t l)), pt (hE b (.arc m t l))]), some (fr (lenP (psub t m))), a, b', c])
        (pdi_zipT cc f.b_zip (pd_tup (pda_cons (pd_ixL (pd_var cc 1) (pd_var cc 2) hbeg) (pda_cons (pd_call cc g5 (pda_cons (pd_var cc 3) pda_nil) ⟨_, rfl, rfl⟩) pda_nil))) (pd_var cc 4))
        (pg_tup c.calm (pgs_cons (pg_of c 7) (pgs_cons (pg_of c 6) pgs_nil))) (fun d hd => ?_) ⟨_, _, _, rfl⟩ ?_ ?_
      · obtain ⟨j, hj⟩ := List.mem_iff_getElem?.mp hd
        obtain ⟨x, y, _, _, rfl⟩ := zipD_get _ _ hj
        exact gd_tup2 (by decide) (by decide)
      · rintro j d _ hd ⟨y1, y2, y3, rfl⟩
        have hqu : ∃ q u, d = .tuple [pt q, pt u] ∧ SzP 100 q ∧ SzP 1900 u ∧ onP q (if l then leftP u else negP (leftP u)) r = m := by
          match j, hd with
          | 0, hd =>
            cases hd
            exact ⟨b, hB b (.arc m t l), rfl, hb, sB, mid_head h0 hr⟩
          | 1, hd =>
            cases hd
            exact ⟨t, hE b (.arc m t l), rfl, ht, sE, mid_head h0 hr2⟩
          | j + 2, hd => cases hd
        obtain ⟨q, u, rfl, sq, su, hon⟩ := hqu
        have su' := su.mono (show 1900 ≤ 4000 by decide)
        refine psd_ifT (pdt_eqT cc (pd_ixT (pd_var cc 3) pd_int) pd_str q_aa h_arc h_arc) ?_
        rw [er]
        refine psd_set c 8 (d := pt (if l then leftP u else negP (leftP u))) ?_ ?_
        · cases l with
          | true => exact pd_ifT (pdt_eqT cc (pd_ixT (pd_var cc 3) pd_int) pd_str q_ll h_left h_left) (pd_call cc g6 (pda_cons (pd_var cc 6) pda_nil) ⟨u, rfl, su', rfl⟩)
          | false => exact pd_ifF (pdt_eqF cc (pd_ixT (pd_var cc 3) pd_int) pd_str q_rl h_right h_left) (pd_call cc g7 (pda_cons (pd_call cc g6 (pda_cons (pd_var cc 6) pda_nil) ⟨u, rfl, su', rfl⟩) pda_nil) ⟨_, rfl, su'.left, rfl⟩)
        · have sr : SzP 2000 (if l then leftP u else negP (leftP u)) := by
            cases l with
            | true => exact (su.mono (by decide)).left
            | false => exact (su.mono (by decide)).left.neg
          refine psd_skip (pdt_neF cc (pd_call cc g8 (pda_cons (pd_var cc 7) (pda_cons (pd_var cc 8) (pda_cons (pd_var cc 5) pda_nil))) ⟨q, _, r, rfl, sq.mono (by decide), sr, hsr, rfl⟩) (pd_ixT (pd_var cc 3) pd_int) (by rw [hon]; exact eqv_rf _ rfl)) ?_
          exact psd_nil (psd_nil ⟨_, _, _, rfl⟩)
      · rintro _ ⟨y1, y2, y3, rfl⟩
        exact psd_nil ⟨_, _, _, _, _, _, _, rfl⟩
  · rintro _ ⟨z1, z2, z3, z4, z5, z6, z7, rfl⟩
    exact psd_ret pd_bl rfl
end
end SC

set_option maxHeartbeats 4000000
/-! the law's look at a deed -/
namespace SC
open PySem PySem.Spec PyProof.Rows L2 RZ
theorem rng_inj (a b : Nat) (h : PyData.int (a : Int) = PyData.int (b : Int)) : a = b := by
  injection h with h
  omega
theorem onI (f : Nat → PyData) (i : Nat) : onD (fun i : Nat => PyData.int (i : Int)) f (.int (i : Int)) = f i := onD_eq (enc := fun i : Nat => PyData.int (i : Int)) rng_inj i
theorem rngD_map (f : Nat → PyData) (n : Nat) : ((rngD 0 n).filter fun _ => true).map (onD (fun i : Nat => PyData.int (i : Int)) f) = (List.range n).map f := by
  rw [List.filter_eq_self.mpr (fun _ _ => rfl)]
  unfold rngD
  rw [List.map_map]
  refine List.map_congr_left fun i _ => ?_
  show onD (fun i : Nat => PyData.int (i : Int)) f (.int (0 + (i : Int))) = f i
  rw [Int.zero_add]
  exact onI f i
theorem rngD_mem {n : Nat} {d : PyData} (h : d ∈ rngD 0 n) : ∃ i : Nat, i < n ∧ d = .int (i : Int) := by
  obtain ⟨i, hi, rfl⟩ := List.mem_map.mp h
  exact ⟨i, List.mem_range.mp hi, by rw [Int.zero_add]⟩
theorem endsL_map (f : Pt → PyData) (p : Path) : ((endsL p).filter fun _ => true).map (onD pt f) = (List.range (p.n + 1)).map fun i => f (beginAt p i) := by
  rw [List.filter_eq_self.mpr (fun _ _ => rfl)]
  unfold endsL
  rw [List.map_map]
  exact List.map_congr_left fun i _ => onD_eq (fun a b => pt_inj) _
theorem str_inj (a b : Str) (h : PyData.str a = PyData.str b) : a = b := by
  injection h
theorem strs_map (xs : List Str) : ((xs.map PyData.str).filter fun _ => true).map (onD PyData.str fun x => .str (swapW x)) = (xs.map swapW).map .str := by
  rw [List.filter_eq_self.mpr (fun _ _ => rfl), List.map_map, List.map_map]
  exact List.map_congr_left fun x _ => onD_eq str_inj x
theorem pl_pts (p : Path) : pl (.list (endsL p)) = true := plA_all.mpr fun d hd => by
  obtain ⟨i, _, rfl⟩ := List.mem_map.mp hd
  rfl
theorem sh_pts (p : Path) : Sh 4 (.list (endsL p)) := Sh.list fun d hd => by
  obtain ⟨i, _, rfl⟩ := List.mem_map.mp hd
  exact sh_pt _
theorem pl_rads (p : Path) : pl (.list (radsL p)) = true := plA_all.mpr fun d hd => by
  obtain ⟨i, _, rfl⟩ := List.mem_map.mp hd
  exact pl_rad _
theorem sh_rads (p : Path) : Sh 2 (.list (radsL p)) := Sh.list fun d hd => by
  obtain ⟨i, _, rfl⟩ := List.mem_map.mp hd
  exact sh_rad _
theorem srt_wd {xs : List Str} (h : ∀ x ∈ xs, Wd x) : ∀ x ∈ srtS xs, Wd x := fun x hx => h x ((srtS_perm xs).mem_iff.mp hx)
section
variable {P : Program} {w : World} {K : PySem.W.Frag} {mg : Str → Option Value} {base : Heap}
theorem kl_deed_right (A : At K mg "_law_deed_right" s71) (f : Fr mg) (g1 : Kn P w K mg base "_law_point_done" ["_law_point", "_law_deed", "_law_by"] (spP K PL_point_done) 4) (g2 : Kn P w K mg base "ends_of" ["path"] (spP K PR_ends_of) 2) (g3 : Kn P w K mg base "is_path" ["thing"] (spP K PR_is_path) 8)
    (g4 : Kn P w K mg base "radius_of" ["path", "number"] (spP K PR_radius_of) 6) (g5 : Kn P w K mg base "_law_words" ["_law_path_here"] (spP K PL_words) 10) (g6 : Kn P w K mg base "is_closed" ["path"] (spP K PR_is_closed) 2) :
    Kn P w K mg base "_law_deed_right" ["_law_path_here", "_law_found", "_law_deed", "_law_by"] (spP K PL_deed_right) 11 := by
  refine def_ok A sc71 (by rintro _ _ ⟨a, b, _, rfl, _⟩; rfl) (fun _ _ _ _ _ _ us hl => match us, hl with | [_, _, _, _], _ => rfl) ?_
  rintro X rfl rfl rfl rfl rfl c he _ _ ⟨p, k, v, rfl, hp, hq, hk, hv, rfl⟩
  have cc := c.toCtx
  have hn := hp.len
  have nq := n_done p k v
  -- the ends so put
  refine psd_setLc c 4 [("_law_point", 7)] (fun d ρ => ρ.set 7 (some d)) (fun _ => true) (onD pt fun q => pt (ptDone q k v)) (by decide +kernel) (sw_true (by rw [c.hs]; exact c.fk) (c.lc rfl) rfl (by decide +kernel))
    (pdi_list (pd_call cc g2 (pda_cons (pd_var cc 0) pda_nil) ⟨p, rfl, hp, rfl⟩)) (by rw [endsL_len]; omega) (fun d hd _ => ?_) (fun X' _ c' => pg_blk c' 7) (fun d _ => gd_name (by decide)) (fun X' _ c' d _ => pdts_nil) (fun X' hX c' d hd _ => ?_) ?_
  · obtain ⟨i, _, rfl⟩ := List.mem_map.mp hd
    rw [onD_eq (fun a b => pt_inj)]
    rfl
  · obtain ⟨i, hi, rfl⟩ := List.mem_map.mp hd
    have := List.mem_range.mp hi
    rw [onD_eq (fun a b => pt_inj)]
    exact pd_call c' (g1.blkP hX.same) (pda_cons (pd_var c' 7) (pda_cons (pd_var c' 2) (pda_cons (pd_var c' 3) pda_nil))) ⟨_, k, v, rfl, (hp.sb (by omega)).mono (by decide), hv, rfl⟩
  rw [endsL_map]
  have e1 := ends_done p k v hk
  refine psd_skip (pdt_w (pw_orF (PDT.eq (pdt_notB (pd_call cc g3 (pda_cons (pd_var cc 1) pda_nil) ⟨_, rfl, hq, rfl⟩) pd_bl) (by decide)) (pdw_or1 (pdt_neF cc (pd_call cc g2 (pda_cons (pd_var cc 1) pda_nil) ⟨_, rfl, hq, rfl⟩)
    (pd_if (d := .list (endsL (done p k v))) (pdt_eq cc (pd_var cc 2) pd_int eqi rfl rfl) (fun h => PD.eq (pd_revL (pd_var cc 4)) ?_) (fun h => PD.eq (pd_var cc 4) ?_)) (eqv_rf _ (pl_pts _)) ((sh_pts _).ok (by decide)) ((sh_pts _).ok (by decide)))))) ?_
  · rw [e1, if_pos (of_decide_eq_true h)]
  · rw [e1, if_neg (of_decide_eq_false h)]
  -- the radii
  refine psd_setLc c 5 [("_law_number", 8)] (fun d ρ => ρ.set 8 (some d)) (fun _ => true) (onD (fun i : Nat => PyData.int (i : Int)) fun i => rad (pieceAt p i)) (by decide +kernel) (sw_true (by rw [c.hs]; exact c.fk) (c.lc rfl) rfl (by decide +kernel))
    (pdi_range (i := (p.n : Int)) cc f.b_range (PD.eq (pd_lenT cc f.b_len (pd_ixT (pd_var cc 0) pd_int)) (by rw [lenD])) (by omega)) (by rw [rngD_len]; omega) (fun d hd _ => ?_) (fun X' _ c' => pg_blk c' 8) (fun d _ => gd_name (by decide)) (fun X' _ c' d _ => pdts_nil) (fun X' hX c' d hd _ => ?_) ?_
  · obtain ⟨i, _, rfl⟩ := rngD_mem hd
    rw [onI]
    exact tupd_rad _
  · obtain ⟨i, hi, rfl⟩ := rngD_mem hd
    rw [Int.toNat_natCast] at hi
    rw [onI]
    exact pd_call c' (g4.blkP hX.same) (pda_cons (pd_var c' 0) (pda_cons (pd_var c' 8) pda_nil)) ⟨p, i, rfl, hp, hi, rfl⟩
  rw [Int.toNat_natCast, rngD_map]
  have e2 := rads_done hp k v hk
  refine psd_skip (pdt_neF cc (PD.eq (d1 := .list (radsL (done p k v))) (pd_lc cc [("_law_number", 8)] (fun d ρ => ρ.set 8 (some d)) (fun _ => true) (onD (fun i : Nat => PyData.int (i : Int)) fun i => rad (pieceAt (done p k v) i)) (by decide +kernel)
      (pdi_range (i := (p.n : Int)) cc f.b_range (PD.eq (pd_lenT cc f.b_len (pd_ixT (pd_var cc 0) pd_int)) (by rw [lenD])) (by omega)) (by rw [rngD_len]; omega) (fun d hd _ => ?_) (fun X' _ c' => pg_blk c' 8) (fun d _ => gd_name (by decide)) (fun X' _ c' d _ => pdts_nil) (fun X' hX c' d hd _ => ?_)) ?_)
    (pd_if (d := .list (radsL (done p k v))) (pdt_eq cc (pd_var cc 2) pd_int eqi rfl rfl) (fun h => PD.eq (pd_revL (pd_var cc 5)) ?_) (fun h => PD.eq (pd_var cc 5) ?_)) (eqv_rf _ (pl_rads _)) ((sh_rads _).ok (by decide)) ((sh_rads _).ok (by decide))) ?_
  · obtain ⟨i, _, rfl⟩ := rngD_mem hd
    rw [onI]
    exact tupd_rad _
  · obtain ⟨i, hi, rfl⟩ := rngD_mem hd
    rw [Int.toNat_natCast] at hi
    rw [onI]
    exact pd_call c' (g4.blkP hX.same) (pda_cons (pd_var c' 1) (pda_cons (pd_var c' 8) pda_nil)) ⟨done p k v, i, rfl, hq, by rw [nq]; exact hi, rfl⟩
  · rw [Int.toNat_natCast, rngD_map]
    unfold radsL
    rw [nq]
  · rw [e2, if_pos (of_decide_eq_true h)]
    rfl
  · rw [e2, if_neg (of_decide_eq_false h)]
    rfl
  -- the words
  refine psd_set c 6 (pd_call cc g5 (pda_cons (pd_var cc 0) pda_nil) ⟨p, rfl, hp, rfl⟩) ?_
  have e3 := words_done p k v hk
  have wl : (srtS (words p)).length < 64 := by
    rw [(srtS_perm _).length_eq]
    exact words_len hp
  refine psd_if (pdt_lt (pd_var cc 2) pd_int) (fun h => psd_set c 6 (d := .list ((srtS (words (done p k v))).map .str)) ?_ (psd_nil ?_)) (fun h => psd_nil ?_)
  · rw [e3, if_pos (of_decide_eq_true h)]
    refine pd_sortS cc f.b_sorted (PD.eq (pd_lc cc [("_law_word", 9)] (fun d ρ => ρ.set 9 (some d)) (fun _ => true) (onD PyData.str fun x => .str (swapW x)) (by decide +kernel) (pdi_list (pd_var cc 6)) (by rw [List.length_map]; omega) (fun d hd _ => ?_) (fun X' _ c' => pg_blk c' 9) (fun d _ => gd_name (by decide)) (fun X' _ c' d _ => pdts_nil) (fun X' hX c' d hd _ => ?_)) (by rw [strs_map])) (by rw [List.length_map]; exact wl)
    · obtain ⟨x, _, rfl⟩ := List.mem_map.mp hd
      rw [onD_eq str_inj]
      rfl
    · obtain ⟨x, _, rfl⟩ := List.mem_map.mp hd
      rw [onD_eq str_inj]
      exact pd_swap c' (pd_var c' 9) (pd_var c' 9) ⟨rfl, rfl, rfl, rfl⟩
  · refine psd_ret (pd_andT (pd_eqT cc (pd_call cc g6 (pda_cons (pd_var cc 1) pda_nil) ⟨_, rfl, hq, rfl⟩) (pd_call cc g6 (pda_cons (pd_var cc 0) pda_nil) ⟨_, rfl, hp, rfl⟩) ?_) (pd_one (pd_eqT cc (pd_call cc g5 (pda_cons (pd_var cc 1) pda_nil) ⟨_, rfl, hq, rfl⟩) (pd_var cc 6) (eqv_rf _ (pl_strs _)) ((sh_strs (srt_wd (words_wd _))).ok (by decide)) ((sh_strs (srt_wd (words_wd _))).ok (by decide))))) rfl
    rw [closed_done]
    simp [PyData.eqv]
  · have e4 : srtS (words p) = srtS (words (done p k v)) := by
      rw [e3, if_neg (of_decide_eq_false h)]
    rw [e4]
    refine psd_ret (pd_andT (pd_eqT cc (pd_call cc g6 (pda_cons (pd_var cc 1) pda_nil) ⟨_, rfl, hq, rfl⟩) (pd_call cc g6 (pda_cons (pd_var cc 0) pda_nil) ⟨_, rfl, hp, rfl⟩) ?_) (pd_one (pd_eqT cc (pd_call cc g5 (pda_cons (pd_var cc 1) pda_nil) ⟨_, rfl, hq, rfl⟩) (pd_var cc 6) (eqv_rf _ (pl_strs _)) ((sh_strs (srt_wd (words_wd _))).ok (by decide)) ((sh_strs (srt_wd (words_wd _))).ok (by decide))))) rfl
    rw [closed_done]
    simp [PyData.eqv]
end
end SC

set_option maxHeartbeats 4000000
/-! code that draws from a box (a list of three ints that calls change) -/
namespace SC
open PySem PySem.Spec PyProof.Rows L2 RZ
def Bx (H : Hp) (b : Addr) (n : Nat) : Prop := ∃ x y z : Int, H b = some (.lst [.int x, .int y, .int z]) ∧ 0 ≤ x ∧ 0 ≤ y ∧ y < 2147483647 ∧ 0 ≤ z ∧ z ≤ n
/-- all but the box is kept -/
def SBx (b : Addr) (H H' : Hp) : Prop := ∀ a o, a ≠ b → H a = some o → H' a = some o
section
variable {H H1 H' : Hp} {b : Addr} {m n : Nat}
theorem Bx.mono (h : Bx H b m) (k : m ≤ n) : Bx H b n := by
  obtain ⟨x, y, z, h1, h2, h3, h4, h5, h6⟩ := h
  exact ⟨x, y, z, h1, h2, h3, h4, h5, by omega⟩
theorem Bx.same (h : Bx H b m) (s : Same H H') : Bx H' b m := by
  obtain ⟨x, y, z, h1, r⟩ := h
  exact ⟨x, y, z, s _ _ h1, r⟩
theorem Bx.some (h : Bx H b m) : ∃ xs, H b = some (.lst xs) := by
  obtain ⟨x, y, z, h1, r⟩ := h
  exact ⟨_, h1⟩
theorem SBx.refl : SBx b H H := fun _ _ _ h => h
theorem SBx.of_same (s : Same H H') : SBx b H H' := fun a o _ h => s a o h
theorem SBx.trans (s : SBx b H H1) (t : SBx b H1 H') : SBx b H H' := fun a o n h => t a o n (s a o n h)
theorem SBx.kept (s : SBx b H H') {xs : List V} (h : H b = some (.lst xs)) : Kept H H' :=
  ⟨fun a ys e => s a _ (ne_of e h (by intro z; cases z)) e, fun a o u e => s a _ (ne_of e h (by intro z; cases z)) e⟩
theorem Bx.kept (h : Bx H b m) (s : SBx b H H') : Kept H H' := by
  obtain ⟨xs, e⟩ := h.some
  exact s.kept e
end
theorem EnvD.kept {K : PySem.W.Frag} {H H' : Hp} {σ : L2.St} {ρ : Rho} (h : EnvD K H σ ρ) (k : Kept H H') (t : ∀ (i : Nat) d, ρ[i]? = some (some d) → tupd d = true) : EnvD K H' σ ρ :=
  ⟨h.len, fun i d e => let ⟨v, h1, h2⟩ := h.get i d e; ⟨v, h1, h2.kept k _ _ (t i d e)⟩⟩
def TP (ρ : Rho) : Prop := ∀ (i : Nat) d, ρ[i]? = some (some d) → tupd d = true
theorem TP.set {ρ : Rho} {d : PyData} (h : TP ρ) (t : tupd d = true) (i : Nat) : TP (ρ.set i (some d)) := fun j e hj => by
  by_cases hij : i = j
  · subst hij
    by_cases hi : i < ρ.length
    · rw [List.getElem?_set_self hi] at hj
      cases hj
      exact t
    · rw [List.getElem?_eq_none (by simpa using hi)] at hj
      cases hj
  · rw [List.getElem?_set_ne hij] at hj
    exact h j e hj
/-- an expression: it draws at most m times, and tells a datum of P -/
def BE (X : Cx) (e : Expr) (ρ : Rho) (j m : Nat) (P : PyData → Prop) : Prop := ∀ σ H b n, n + m ≤ 100000 → EnvD X.K H σ ρ → TP ρ → σ[j]? = some (some (.ref b)) → Bx H b n → ∀ Q : VK,
  (∀ v H' d, P d → tupd d = true → Dq X.K H' v d → SBx b H H' → Bx H' b (n + m) → Q v H') → WE X e σ H Q
def BEA (X : Cx) (es : List Expr) (ρ : Rho) (j m : Nat) (P : List PyData → Prop) : Prop := ∀ σ H b n, n + m ≤ 100000 → EnvD X.K H σ ρ → TP ρ → σ[j]? = some (some (.ref b)) → Bx H b n → ∀ Q : List V → Hp → Prop,
  (∀ vs H' ds, P ds → tupdA ds = true → DqA X.K H' vs ds → SBx b H H' → Bx H' b (n + m) → Q vs H') → WA X es σ H Q
/-- a def that is handed the box first -/
def spBx (K : PySem.W.Frag) (m : Nat) (Pre : List PyData → Prop) (Post : List PyData → PyData → Prop) : Sp := fun vs H Q _ => ∃ b n ws ds, vs = .ref b :: ws ∧ n + m ≤ 100000 ∧ Bx H b n ∧ DqA K H ws ds ∧ tupdA ds = true ∧ Pre ds ∧
  ∀ v H' d, Post ds d → tupd d = true → Dq K H' v d → SBx b H H' → Bx H' b (n + m) → Q v H'
section
variable {X : Cx} {N : List Str} {sc : Scope} {k : Nat} {ρ : Rho} {d d1 d2 : PyData} {e a b : Expr} {es : List Expr} {p pos : Pos} {j m m1 m2 : Nat} {P P1 P2 : PyData → Prop} {PA : List PyData → Prop}
theorem be_pd (h : PD X e ρ d) (t : tupd d = true := by rfl) : BE X e ρ j 0 (fun x => x = d) := fun σ H b n hn E T hs hb Q q => h σ H E _ fun v H' s hv => q v H' d rfl t hv (SBx.of_same s) (hb.same s)
theorem be_weak {m' : Nat} {P' : PyData → Prop} (h : BE X e ρ j m P) (hm : m ≤ m') (hp : ∀ d, P d → P' d) : BE X e ρ j m' P' := fun σ H b n hn E T hs hb Q q => h σ H b n (by omega) E T hs hb Q fun v H' d hd t hv s hb' => q v H' d (hp d hd) t hv s (hb'.mono (by omega))
theorem bea_nil : BEA X [] ρ j 0 (fun ds => ds = []) := fun σ H b n hn E T hs hb Q q => ⟨_, pa_nil, q [] H [] rfl rfl .nil SBx.refl hb⟩
theorem bea_cons (h : BE X e ρ j m1 P) (hr : BEA X es ρ j m2 PA) (hs : starEach (e :: es) X.env = (false, eval e X.env) :: starEach es X.env := by rfl) : BEA X (e :: es) ρ j (m1 + m2) (fun ds => ∃ d r, ds = d :: r ∧ P d ∧ PA r) := fun σ H b n hn E T hsl hb Q q =>
  ⟨_, pa_cons pe_W pa_W hs, h σ H b n (by omega) E T hsl hb _ fun v H1 d hd t hv s hb1 => hr σ H1 b (n + m1) (by omega) (E.kept (hb.kept s) T) T hsl hb1 _ fun vs H2 ds hds ts hvs s2 hb2 =>
    q (v :: vs) H2 (d :: ds) ⟨d, ds, rfl, hd, hds⟩ (by unfold tupdA; rw [t, ts]; rfl) (.cons (hv.kept (hb1.kept s2) _ _ t) hvs) (s.trans s2) (hb2.mono (by omega))⟩
theorem be_tup {x1 : Nat} (h : BEA X es ρ j m PA) (hl : es.length ≤ 1000 := by exact Nat.le_of_ble_eq_true rfl) (hlen : ∀ ds, PA ds → ds.length ≤ 1000) : BE X (.Tuple es x1 pos) ρ j m (fun d => ∃ ds, d = .tuple ds ∧ PA ds) := fun σ H b n hn E T hsl hb Q q =>
  ⟨_, pe_tup pa_W, h σ H b n hn E T hsl hb _ fun vs H1 ds hds ts hvs s hb1 => ⟨sz_le (by rw [hvs.len]; exact Nat.le_trans (hlen ds hds) (by decide)), fun l nl => q _ _ (.tuple ds) ⟨ds, rfl, hds⟩ (by unfold tupd; exact ts) (.tup (SqT.of upd_same) (hvs.mono (same_upd nl))) (s.trans (SBx.of_same (same_upd nl))) (hb1.same (same_upd nl))⟩⟩
theorem be_op {op : Operator} {r : R2} (ho : OpR X (binaryOp op) r) (h1 : BE X a ρ j m1 P1) (h2 : BE X b ρ j m2 P2) (hr : ∀ d1 d2, P1 d1 → P2 d2 → ∃ d, P d ∧ tupd d = true ∧ RD X.K r d1 d2 d) : BE X (.BinOp a op b pos) ρ j (m1 + m2) P := fun σ H bb n hn E T hsl hb Q q =>
  ⟨_, pe_op ho pe_W pe_W, h1 σ H bb n (by omega) E T hsl hb _ fun v H1 d1 hd t hv s hb1 => h2 σ H1 bb (n + m1) (by omega) (E.kept (hb.kept s) T) T hsl hb1 _ fun w H2 d2 hd2 t2 hw s2 hb2 => by
    obtain ⟨d, hp, td, rd⟩ := hr d1 d2 hd hd2
    exact rd H2 v w (hv.kept (hb1.kept s2) _ _ t) hw Q fun z H3 s3 hz => q z H3 d hp td hz (s.trans (s2.trans (SBx.of_same s3))) ((hb2.same s3).mono (by omega))⟩
theorem be_cmp {op : CmpOp} {r : R2} (ho : OpR X (compareOp op) r) (h1 : BE X a ρ j m1 P1) (h2 : BE X b ρ j m2 P2) (hr : ∀ d1 d2, P1 d1 → P2 d2 → ∃ d, P d ∧ tupd d = true ∧ RD X.K r d1 d2 d) (hm : behindInMarks op b = false := by exact nomark _) : BE X (.Compare a [op] [b] pos) ρ j (m1 + m2) P := fun σ H bb n hn E T hsl hb Q q =>
  ⟨_, pe_cmpR ho pe_W pe_W hm, h1 σ H bb n (by omega) E T hsl hb _ fun v H1 d1 hd t hv s hb1 => h2 σ H1 bb (n + m1) (by omega) (E.kept (hb.kept s) T) T hsl hb1 _ fun w H2 d2 hd2 t2 hw s2 hb2 => by
    obtain ⟨d, hp, td, rd⟩ := hr d1 d2 hd hd2
    exact rd H2 v w (hv.kept (hb1.kept s2) _ _ t) hw Q fun z H3 s3 hz => q z H3 d hp td hz (s.trans (s2.trans (SBx.of_same s3))) ((hb2.same s3).mono (by omega))⟩
/-- [e, ..][i] -/
theorem be_pick {p2 : Pos} (h1 : BEA X es ρ j m1 PA) (h2 : BE X b ρ j m2 P2) (hl : ∀ ds, PA ds → ds.length ≤ 1000) (hr : ∀ ds d2, PA ds → P2 d2 → ∃ i d, d2 = .int i ∧ atI ds i = some d ∧ P d) (hs : PlainIx b := by exact fun _ _ => rfl) : BE X (.Subscript (.List es p2) b pos) ρ j (m1 + m2) P := fun σ H bb n hn E T hsl hb Q q =>
  ⟨_, pe_ix ix_list (pe_lst pa_W) pe_W hs, h1 σ H bb n (by omega) E T hsl hb _ fun vs H1 ds hds ts hvs s hb1 => ⟨sz_le (by rw [hvs.len]; exact Nat.le_trans (hl ds hds) (by decide)), fun l nl => by
    have s1 : SBx bb H (upd H1 l (.lst vs)) := s.trans (SBx.of_same (same_upd nl))
    have hb1' := hb1.same (same_upd (o := .lst vs) nl)
    have lb : l ≠ bb := by
      obtain ⟨xs, e⟩ := hb1.some
      exact (ne_of_none e nl).symm
    refine h2 σ _ bb (n + m1) (by omega) (E.kept (hb.kept s1) T) T hsl hb1' _ fun w H2 d2 hd2 t2 hw s2 hb2 => ?_
    obtain ⟨i, d, rfl, ha, hp⟩ := hr ds d2 hds hd2
    have hl2 : H2 l = some (.lst vs) := s2 l _ lb upd_same
    have hv2 : DqA X.K H2 vs ds := (hvs.mono (same_upd nl)).kept (hb1'.kept s2) _ _ ts
    obtain ⟨v, e1, e2⟩ := atI_dq hv2 ha
    cases hw
    have td : tupd d = true := by
      unfold atI at ha
      cases q2 : ixN ds.length i with
      | none => rw [q2] at ha; cases ha
      | some z =>
        rw [q2] at ha
        exact tupdA_all.mp ts d (List.mem_of_getElem? ha)
    exact ⟨l, vs, i, v, rfl, rfl, SqL.of hl2, e1, q v H2 d hp td e2 (s1.trans s2) (hb2.mono (by omega))⟩⟩⟩
/-- f(e, ..), f a def on data -/
theorem be_call {x : Str} {ps : List Str} {Pr : List PyData → PyData → Prop} {i : Nat} (c : Ctx X N sc k) (g : KnX X x ps (spP X.K Pr) i) (h : BEA X (e :: es) ρ j m PA) (hp : ∀ ds, PA ds → ∃ d, Pr ds d ∧ P d ∧ tupd d = true)
    (hj : i ≤ k := by decide) (hg : sc.names.lookup x = some .globalImplicit := by rfl) (hdb : (x == ("__debug__" : Str)) = false := by decide) (he : starEach (e :: es) X.env = (false, eval e X.env) :: starEach es X.env := by rfl) (hpl : (backTo pos (starEach es X.env)).any (·.1) = false := by rfl) :
    BE X (.Call (.Name x p) (e :: es) [] pos) ρ j m P := fun σ H b n hn E T hsl hb Q q => we_call c g (h σ H b n hn E T hsl hb _ fun vs H1 ds hds ts hvs s hb1 => by
  obtain ⟨d, h1, h2, h3⟩ := hp ds hds
  exact ⟨ds, d, h1, hvs, fun v H2 s2 hv => q v H2 d h2 h3 hv (s.trans (SBx.of_same s2)) (hb1.same s2)⟩) hj hg hdb he hpl
/-- f(box, e, ..), f a def that draws -/
theorem be_draw {x y : Str} {ps : List Str} {Pre : List PyData → Prop} {Post : List PyData → PyData → Prop} {i : Nat} {p2 : Pos} (c : Ctx X N sc k) (g : KnX X x ps (spBx X.K m2 Pre Post) i) (h : BEA X es ρ j m1 PA) (hp : ∀ ds, PA ds → Pre ds)
    (hj : i ≤ k := by decide) (hN : N[j]? = some y := by rfl) (hv : Vis sc y := by first | exact Or.inl rfl | exact Or.inr (Or.inl rfl) | exact Or.inr (Or.inr rfl)) (hd : (y == ("__debug__" : Str)) = false := by decide) (hcd : (y == ("__classdict__" : Str)) = false := by decide)
    (hg : sc.names.lookup x = some .globalImplicit := by rfl) (hdb : (x == ("__debug__" : Str)) = false := by decide) (he : starEach (.Name y p2 :: es) X.env = (false, eval (.Name y p2) X.env) :: starEach es X.env := by rfl) (hpl : (backTo pos (starEach es X.env)).any (·.1) = false := by rfl) :
    BE X (.Call (.Name x p) (.Name y p2 :: es) [] pos) ρ j (m1 + m2) (fun d => ∃ ds, PA ds ∧ Post ds d) := fun σ H b n hn E T hsl hb Q q => we_call c g (⟨_, pa_cons (pe_var (i := j) (by rw [c.hN]; exact hN) (c.vis hv) hd hcd) pa_W he, .ref b, hsl, h σ H b n (by omega) E T hsl hb _ fun vs H1 ds hds ts hvs s hb1 =>
  ⟨b, n + m1, vs, ds, rfl, by omega, hb1, hvs, ts, hp ds hds, fun v H2 d hpost td hv s2 hb2 => q v H2 d ⟨ds, hds, hpost⟩ td hv (s.trans s2) (hb2.mono (by omega))⟩⟩) hj hg hdb he hpl
end

/-! ### statements -/
/-- a list of the def's own at slot jl, with these items -/
def OwnL (K : PySem.W.Frag) (H0 H : Hp) (σ : L2.St) (b : Addr) : Option (Nat × List PyData) → Prop
  | none => True
  | some (jl, acc) => ∃ l vs, σ[jl]? = some (some (.ref l)) ∧ H0 l = none ∧ l ≠ b ∧ H l = some (.lst vs) ∧ DqA K H vs acc ∧ tupdA acc = true
structure BV (K : PySem.W.Frag) (H0 H : Hp) (σ : L2.St) (ρ : Rho) (j : Nat) (b : Addr) (n : Nat) (o : Option (Nat × List PyData)) : Prop where
  fr : SBx b H0 H
  env : EnvD K H σ ρ
  tp : TP ρ
  slot : σ[j]? = some (some (.ref b))
  bx : Bx H b n
  own : OwnL K H0 H σ b o
abbrev Own := Option (Nat × List PyData)
def BS (X : Cx) (sts : List Stmt) (ρ : Rho) (j : Nat) (o : Own) (m : Nat) (Nx : Rho → Own → Prop) (R : PyData → Prop) : Prop := ∀ H0 σ H b n (D : Ends), n + m ≤ 100000 → BV X.K H0 H σ ρ j b n o →
  (∀ σ' H' ρ' o', Nx ρ' o' → BV X.K H0 H' σ' ρ' j b (n + m) o' → D.nx σ' H') → (∀ d v H', R d → tupd d = true → Dq X.K H' v d → SBx b H0 H' → Bx H' b (n + m) → D.rt v H') → WSs X sts D σ H
section
variable {K : PySem.W.Frag} {H0 H H' : Hp} {σ : L2.St} {ρ : Rho} {j n n' i : Nat} {b : Addr} {o : Own} {v : V} {d : PyData}
theorem BV.mono (B : BV K H0 H σ ρ j b n o) (s : SBx b H H') (hb : Bx H' b n') : BV K H0 H' σ ρ j b n' o := by
  have kp := B.bx.kept s
  refine ⟨B.fr.trans s, B.env.kept kp B.tp, B.tp, B.slot, hb, ?_⟩
  cases o with
  | none => trivial
  | some x =>
    obtain ⟨jl, acc⟩ := x
    obtain ⟨l, vs, h1, h2, h3, h4, h5, h6⟩ := B.own
    exact ⟨l, vs, h1, h2, h3, s _ _ h3 h4, h5.kept kp _ _ h6, h6⟩
theorem BV.set (B : BV K H0 H σ ρ j b n o) (hv : Dq K H v d) (t : tupd d = true) (hij : i ≠ j) (ho : ∀ x, o = some x → i ≠ x.1) : BV K H0 H (σ.set i (some v)) (ρ.set i (some d)) j b n o := by
  refine ⟨B.fr, B.env.set hv i, B.tp.set t i, by rw [List.getElem?_set_ne hij]; exact B.slot, B.bx, ?_⟩
  cases o with
  | none => trivial
  | some x =>
    obtain ⟨jl, acc⟩ := x
    obtain ⟨l, vs, h1, h⟩ := B.own
    refine ⟨l, vs, ?_, h⟩
    have hn : i ≠ jl := ho _ rfl
    rw [List.getElem?_set_ne hn]
    exact h1
end
section
variable {X : Cx} {N : List Str} {sc : Scope} {k : Nat} {ρ : Rho} {d d1 d2 : PyData} {e a b c3 : Expr} {rest body els : List Stmt} {p p2 pos : Pos} {j m m1 m2 m3 : Nat} {P P1 P2 P3 : PyData → Prop} {o : Own} {Nx : Rho → Own → Prop} {R : PyData → Prop} {t : Bool}
def Apart (i j : Nat) (o : Own) : Prop := i ≠ j ∧ ∀ x, o = some x → i ≠ x.1
theorem apart_none {i j : Nat} (h : i ≠ j := by decide) : Apart i j none := ⟨h, fun _ z => nomatch z⟩
theorem apart_some {i j jl : Nat} {acc : List PyData} (h : i ≠ j := by decide) (h2 : i ≠ jl := by decide) : Apart i j (some (jl, acc)) := ⟨h, fun x z => by cases z; exact h2⟩
theorem bs_nil (h : Nx ρ o) : BS X [] ρ j o 0 Nx R := fun H0 σ H b n D hn B nx rt => wss_nil (nx σ H ρ o h B)
theorem bs_weak {m' : Nat} {Nx' : Rho → Own → Prop} {R' : PyData → Prop} (h : BS X rest ρ j o m Nx' R') (hm : m ≤ m') (h1 : ∀ ρ o, Nx' ρ o → Nx ρ o) (h2 : ∀ d, R' d → R d) : BS X rest ρ j o m' Nx R := fun H0 σ H b n D hn B nx rt => h H0 σ H b n D (by omega) B
  (fun σ' H' ρ' o' z B' => nx σ' H' ρ' o' (h1 _ _ z) (B'.mono SBx.refl (B'.bx.mono (by omega)))) fun d v H' z t hv s hb => rt d v H' (h2 d z) t hv s (hb.mono (by omega))
theorem bs_set {x : Str} (c : DCtx X N sc k) (i : Nat) (he : BE X e ρ j m1 P) (hk : ∀ d, P d → BS X rest (ρ.set i (some d)) j o m2 Nx R) (ap : Apart i j o) (hN : N[i]? = some x := by rfl) (hx : Loc sc x := by first | exact Or.inl rfl | exact Or.inr rfl) (hs : swapsWith e (some (.Name x p)) pos.line X.env = pure false := by rfl) :
    BS X (.Assign [.Name x p] e pos :: rest) ρ j o (m1 + m2) Nx R := fun H0 σ H b n D hn B nx rt =>
  ws_cons (ws_of (ps_set (i := i) c.nd' (by rw [c.hN]; exact hN) (c.loc hx) pe_W hs (.inl (c.fn x))) (he σ H b n (by omega) B.env B.tp B.slot B.bx _ fun v H1 d hd t hv s hb1 =>
    hk d hd H0 _ H1 b (n + m1) D (by omega) ((B.mono s hb1).set hv t ap.1 ap.2) (fun σ' H' ρ' o' z B' => nx σ' H' ρ' o' z (by rw [← Nat.add_assoc]; exact B')) fun d v H' z t hv s hb => rt d v H' z t hv s (by rw [← Nat.add_assoc]; exact hb)))
theorem bs_par {x y : Str} {px py pt pt2 : Pos} {kt k2 : Nat} (c : DCtx X N sc k) (i l : Nat) (h1 : BE X a ρ j m1 P1) (h2 : BE X b ρ j m2 P2) (hk : ∀ d1 d2, P1 d1 → P2 d2 → BS X rest ((ρ.set i (some d1)).set l (some d2)) j o m3 Nx R)
    (hw : swappedStores [.Tuple [.Name x px, .Name y py] kt pt] (.Tuple [a, b] k2 pt2) X.env = pure (some [x, y])) (a1 : Apart i j o) (a2 : Apart l j o) (hi : N[i]? = some x := by rfl) (hj : N[l]? = some y := by rfl) (hij : i ≠ l := by decide)
    (hx : sc.names.lookup x = some .local := by rfl) (hy : sc.names.lookup y = some .local := by rfl) (n1 : NoStar a := by exact fun _ _ => rfl) (n2 : NoStar b := by exact fun _ _ => rfl)
    (hs : swapsWithSole [.Tuple [.Name x px, .Name y py] kt pt] (.Tuple [a, b] k2 pt2) pos.line X.env = pure false := by rfl) :
    BS X (.Assign [.Tuple [.Name x px, .Name y py] kt pt] (.Tuple [a, b] k2 pt2) pos :: rest) ρ j o (m1 + m2 + m3) Nx R := fun H0 σ H bb n D hn B nx rt =>
  ws_cons (ws_of (ps_par (i := i) (j := l) c.calm c.nd' (by rw [c.hN]; exact hi) (by rw [c.hN]; exact hj) hij (c.lc hx) (c.lc hy) (pa_cons pe_W (pa_cons pe_W pa_nil (n2 _ _)) (n1 _ _)) hw hs)
    (h1 σ H bb n (by omega) B.env B.tp B.slot B.bx _ fun v H1 d1 hd1 t1 hv s hb1 => by
      have B1 := B.mono s hb1
      exact h2 σ H1 bb (n + m1) (by omega) B1.env B1.tp B1.slot B1.bx _ fun w H2 d2 hd2 t2 hw s2 hb2 => ⟨v, w, rfl, by
        have B2 := B1.mono s2 hb2
        have hv2 := hv.kept (B1.bx.kept s2) _ _ t1
        exact hk d1 d2 hd1 hd2 H0 _ H2 bb (n + m1 + m2) D (by omega) ((B2.set hv2 t1 a1.1 a1.2).set hw t2 a2.1 a2.2) (fun σ' H' ρ' o' z B' => nx σ' H' ρ' o' z (B'.mono SBx.refl (B'.bx.mono (by omega)))) fun d v H' z t hv s hb => rt d v H' z t hv s (hb.mono (by omega))⟩))
/-- xs, y, z = [], e2, e3: xs is the def's own list from here on -/
theorem bs_par3 {x y z : Str} {px py pz pt pt2 pl : Pos} {kt k2 : Nat} (c : DCtx X N sc k) (i l q : Nat) (h2 : BE X b ρ j m2 P2) (h3 : BE X c3 ρ j m3 P3) (hk : ∀ d2 d3, P2 d2 → P3 d3 → BS X rest ((ρ.set l (some d2)).set q (some d3)) j (some (i, [])) m Nx R)
    (hw : swappedStores [.Tuple [.Name x px, .Name y py, .Name z pz] kt pt] (.Tuple [.List [] pl, b, c3] k2 pt2) X.env = pure (some [x, y, z])) (ho : o = none) (hρ : ρ[i]? = some none) (hi : N[i]? = some x := by rfl) (hj : N[l]? = some y := by rfl) (hq : N[q]? = some z := by rfl)
    (hil : i ≠ l := by decide) (hiq : i ≠ q := by decide) (hlq : l ≠ q := by decide) (hij : i ≠ j := by decide) (hlj : l ≠ j := by decide) (hqj : q ≠ j := by decide)
    (hx : sc.names.lookup x = some .local := by rfl) (hy : sc.names.lookup y = some .local := by rfl) (hz : sc.names.lookup z = some .local := by rfl) (n2 : NoStar b := by exact fun _ _ => rfl) (n3 : NoStar c3 := by exact fun _ _ => rfl)
    (hs : swapsWithSole [.Tuple [.Name x px, .Name y py, .Name z pz] kt pt] (.Tuple [.List [] pl, b, c3] k2 pt2) pos.line X.env = pure false := by rfl) :
    BS X (.Assign [.Tuple [.Name x px, .Name y py, .Name z pz] kt pt] (.Tuple [.List [] pl, b, c3] k2 pt2) pos :: rest) ρ j o (m2 + m3 + m) Nx R := fun H0 σ H bb n D hn B nx rt =>
  ws_cons (ws_of (ps_par3 (i := i) (j := l) (l := q) c.calm c.nd' (by rw [c.hN]; exact hi) (by rw [c.hN]; exact hj) (by rw [c.hN]; exact hq) hil hiq hlq (c.lc hx) (c.lc hy) (c.lc hz) (pa_cons (pe_lst pa_nil) (pa_cons pe_W (pa_cons pe_W pa_nil (n3 _ _)) (n2 _ _))) hw hs)
    ⟨Nat.zero_le _, fun al nl => by
      subst ho
      have sa : SBx bb H (upd H al (.lst [])) := SBx.of_same (same_upd nl)
      have B0 := B.mono sa (B.bx.same (same_upd nl))
      have lb : al ≠ bb := by
        obtain ⟨xs, e⟩ := B.bx.some
        exact (ne_of_none e nl).symm
      have n0 : H0 al = none := by
        cases e : H0 al with
        | none => rfl
        | some u =>
          have := B.fr al u lb e
          rw [nl] at this
          cases this
      refine h2 σ _ bb n (by omega) B0.env B0.tp B0.slot B0.bx _ fun v H1 d1 hd1 t1 hv s hb1 => ?_
      have B1 := B0.mono s hb1
      refine h3 σ H1 bb (n + m2) (by omega) B1.env B1.tp B1.slot B1.bx _ fun w H2 d2 hd2 t2 hw s2 hb2 => ⟨_, _, _, rfl, ?_⟩
      have B2 := B1.mono s2 hb2
      have hv2 := hv.kept (B1.bx.kept s2) _ _ t1
      have hal : H2 al = some (.lst []) := s2 _ _ lb (s _ _ lb upd_same)
      have len := B.env.len
      have hiσ : i < σ.length := by
        rw [len]
        exact (List.getElem?_eq_some_iff.mp hρ).1
      have E3 : EnvD X.K H2 (σ.set i (some (.ref al))) ρ := ⟨by simp [len], fun r dd h => by
        by_cases hr : i = r
        · subst hr
          rw [hρ] at h
          cases h
        · rw [List.getElem?_set_ne hr]
          exact B2.env.get r dd h⟩
      have B3 : BV X.K H0 H2 (σ.set i (some (.ref al))) ρ j bb (n + m2 + m3) (some (i, [])) :=
        ⟨B2.fr, E3, B2.tp, by rw [List.getElem?_set_ne hij]; exact B2.slot, B2.bx, ⟨al, [], List.getElem?_set_self hiσ, n0, lb, hal, .nil, rfl⟩⟩
      exact hk d1 d2 hd1 hd2 H0 _ H2 bb (n + m2 + m3) D (by omega) ((B3.set hv2 t1 hlj (fun x z => by cases z; exact hil.symm)).set hw t2 hqj (fun x z => by cases z; exact hiq.symm)) (fun σ' H' ρ' o' z B' => nx σ' H' ρ' o' z (B'.mono SBx.refl (B'.bx.mono (by omega)))) fun d v H' z t hv s hb => rt d v H' z t hv s (hb.mono (by omega))⟩)
theorem bs_ret (he : BE X e ρ j m P) (h : ∀ d, P d → R d) : BS X (.Return (some e) pos :: rest) ρ j o m Nx R := fun H0 σ H b n D hn B nx rt => ws_cons (ws_of (ps_ret pe_W) (he σ H b n hn B.env B.tp B.slot B.bx _ fun v H1 d hd t hv s hb1 => rt d v H1 (h d hd) t hv (B.fr.trans s) hb1))
/-- return tuple-of the own list and other data: by the own list as data -/
theorem bs_if {c0 : Expr} (hc : PDT X c0 ρ t) (h1 : t = true → BS X body ρ j o m1 (fun ρ' o' => BS X rest ρ' j o' m2 Nx R) R) (h2 : t = false → BS X els ρ j o m1 (fun ρ' o' => BS X rest ρ' j o' m2 Nx R) R) : BS X (.If c0 body els pos :: rest) ρ j o (m1 + m2) Nx R := fun H0 σ H b n D hn B nx rt =>
  ws_cons (ws_of (ps_if pt_W pss_W pss_W) (hc σ H B.env _ fun H1 s1 => by
    have B1 := B.mono (SBx.of_same s1) (B.bx.same s1)
    have go : ∀ {sts : List Stmt}, BS X sts ρ j o m1 (fun ρ' o' => BS X rest ρ' j o' m2 Nx R) R → WSs X sts { D with nx := WSs X rest D } σ H1 := fun {sts} h =>
      h H0 σ H1 b n _ (by omega) B1 (fun σ' H' ρ' o' h' B' => h' H0 σ' H' b (n + m1) D (by omega) B' (fun σ2 H2 ρ2 o2 z B2 => nx σ2 H2 ρ2 o2 z (B2.mono SBx.refl (B2.bx.mono (by omega)))) fun d v H' z t hv s hb => rt d v H' z t hv s (hb.mono (by omega))) fun d v H' z t hv s hb => rt d v H' z t hv s (hb.mono (by omega))
    cases t with
    | true =>
      rw [if_pos rfl]
      exact go (h1 rfl)
    | false =>
      rw [if_neg (by decide)]
      exact go (h2 rfl)))
/-- xs.append(e), xs the own list -/
theorem bs_app {x : Str} {p3 p4 : Pos} {jl : Nat} {acc : List PyData} (c : DCtx X N sc k) (he : PD X e ρ d) (ht : tupd d = true) (hl : acc.length < 100000) (hk : BS X rest ρ j (some (jl, acc ++ [d])) m Nx R) (hN : N[jl]? = some x := by rfl) (hv : Vis sc x := by first | exact Or.inl rfl | exact Or.inr (Or.inl rfl) | exact Or.inr (Or.inr rfl))
    (hd : (x == ("__debug__" : Str)) = false := by decide) (hcd : (x == ("__classdict__" : Str)) = false := by decide) (hline : (p2.endLine == p3.line) = true := by rfl) (ns : NoStar e := by exact fun _ _ => rfl) :
    BS X (.Expr (.Call (.Attribute (.Name x p) "append" p2) [e] [] p3) p4 :: rest) ρ j (some (jl, acc)) m Nx R := fun H0 σ H b n D hn B nx rt => by
  have hst := ns [] X.env
  refine ws_cons (ws_of (ps_expr (pe_bm PySem.F.plainAttrs_list PySem.F.slot_list_append PySem.F.type_list_append mt_append (pe_var (i := jl) (by rw [c.hN]; exact hN) (c.vis hv) hd hcd) (pa_cons pe_W pa_nil hst) (hline := hline) (hs := hst) (hfew := by rw [hst]; rfl))) ?_)
  obtain ⟨l, vs, h1, h2, h3, h4, h5, h6⟩ := B.own
  refine ⟨.ref l, h1, .inl ⟨rfl, _, SqL.of h4⟩, he σ H B.env _ fun v H1 s1 hv => ?_⟩
  have h41 := s1 _ _ h4
  refine ⟨l, vs, v, rfl, rfl, h41, by rw [h5.len]; exact Nat.lt_of_lt_of_le hl (by decide), ?_⟩
  have kp : Kept H1 (upd H1 l (.lst (vs ++ [v]))) := Kept.upd h41
  have hbx : Bx (upd H1 l (.lst (vs ++ [v]))) b n := by
    obtain ⟨x, y, z, g1, r⟩ := B.bx.same s1
    exact ⟨x, y, z, by rw [upd_ne h3.symm]; exact g1, r⟩
  refine hk H0 σ _ b n D hn ⟨fun a o na e => ?_, (B.env.mono s1).kept kp B.tp, B.tp, B.slot, hbx, ⟨l, _, h1, h2, h3, upd_same, ((h5.mono s1).kept kp _ _ h6).append (.cons (hv.kept kp _ _ ht) .nil), ?_⟩⟩ nx rt
  · rw [upd_ne (ne_of_none e h2)]
    exact s1 _ _ (B.fr a o na e)
  · exact tupdA_all.mpr fun y hy => by
      rcases List.mem_append.mp hy with h | h
      · exact tupdA_all.mp h6 y h
      · rcases List.mem_cons.mp h with rfl | h
        · exact ht
        · cases h
/-- for x in range(e) -/
theorem bs_for {x : Str} {tp : Pos} {M : Nat} (c : DCtx X N sc k) (fr : X.mg "range" = none) (i : Nat) (I : Nat → Rho → Own → Prop) (he : BE X e ρ j m1 P) (hP : ∀ d, P d → ∃ q : Nat, d = .int (q : Int) ∧ q ≤ M) (hM : M ≤ 1000) (h0 : I 0 ρ o)
    (hb : ∀ (q : Nat) ρ' o', q < M → I q ρ' o' → Apart i j o' ∧ BS X body (ρ'.set i (some (.int (q : Int)))) j o' m2 (I (q + 1)) (fun _ => False)) (hr : ∀ (q : Nat) ρ' o', q ≤ M → P (.int (q : Int)) → I q ρ' o' → BS X rest ρ' j o' m3 Nx R)
    (hN : N[i]? = some x := by rfl) (hx : Loc sc x := by first | exact Or.inl rfl | exact Or.inr rfl) (hg : sc.names.lookup ("range" : Str) = some .globalImplicit := by rfl) (ns : NoStar e := by exact fun _ _ => rfl) :
    BS X (.For (.Name x tp) (.Call (.Name "range" p) [e] [] p2) body [] pos :: rest) ρ j o (m1 + M * m2 + m3) Nx R := fun H0 σ H b n D hn B nx rt =>
  ws_cons (ws_of (ps_for c.never c.calm (pi_range1 (c.gl hg) fr (pa_cons pe_W pa_nil (ns _ _)) (ns _ _)) (pg_name (i := i) c.nd' (by rw [c.hN]; exact hN) (c.loc hx) (.inl (c.fn x))) pss_W (by intro _; rfl)) (he σ H b n (by omega) B.env B.tp B.slot B.bx _ fun v H1 d hd t hv s hb1 => by
    obtain ⟨q0, rfl, hq0⟩ := hP d hd
    cases hv
    refine ⟨_, rfl, by omega, by omega, ?_⟩
    rw [Int.toNat_natCast]
    have mul_le : ∀ q, q ≤ q0 → q * m2 ≤ M * m2 := fun q h => Nat.mul_le_mul_right _ (Nat.le_trans h hq0)
    refine ⟨fun r w σ' H' => r ≤ q0 ∧ w = q0 - r ∧ ∃ ρ' o', I r ρ' o' ∧ BV X.K H0 H' σ' ρ' j b (n + m1 + r * m2) o', ⟨q0, Nat.zero_le _, rfl, ρ, o, h0, by rw [Nat.zero_mul]; exact B.mono s hb1⟩, fun r w σ' H' hW => ?_⟩
    obtain ⟨hr1, rfl, ρ', o', hI, B'⟩ := hW
    by_cases hlt : r < q0
    · refine .inr ⟨hlt, fun σ2 H2 => ∃ ρ' o', I (r + 1) ρ' o' ∧ BV X.K H0 H2 σ2 ρ' j b (n + m1 + (r + 1) * m2) o', fun σ2 H2 z => ⟨q0 - (r + 1), by omega, hlt, rfl, z⟩, fun x H2 y => ?_⟩
      obtain ⟨rfl, rfl⟩ := y
      rw [Int.zero_add]
      obtain ⟨ap, hbs⟩ := hb r ρ' o' (by omega) hI
      have e1 : n + m1 + r * m2 + m2 = n + m1 + (r + 1) * m2 := by rw [Nat.succ_mul]; omega
      have e2 := mul_le (r + 1) hlt
      refine hbs H0 _ _ b (n + m1 + r * m2) _ (by omega) (B'.set (.int _) rfl ap.1 ap.2) (fun σ3 H3 ρ3 o3 z B3 => ⟨ρ3, o3, z, by rw [← e1]; exact B3⟩) fun d v H3 z => z.elim
    · have e : r = q0 := by omega
      subst e
      have e2 := mul_le r (Nat.le_refl _)
      exact .inl ⟨Nat.le_refl _, hr r ρ' o' hq0 hd hI H0 σ' H' b (n + m1 + r * m2) D (by omega) B' (fun σ2 H2 ρ2 o2 z B2 => nx σ2 H2 ρ2 o2 z (B2.mono SBx.refl (B2.bx.mono (by omega)))) fun d v H' z t hv s hb => rt d v H' z t hv s (hb.mono (by omega))⟩))
end
/-- a def that draws, by its body -/
theorem def_bx {P : Program} {w : World} {K : PySem.W.Frag} {mg : Str → Option Value} {base : Heap} {x : Str} {st : Stmt} {N ps : List Str} {k m : Nat} {Pre : List PyData → Prop} {Post : List PyData → PyData → Prop} (A : At K mg x st) (S : FnScope N ps (defScope st)) (hl : ∀ ds, Pre ds → ds.length + 1 = ps.length)
    (hbi : ∀ (kV doc pm : Value) (an : Option Addr) (cdv ct : Value) (us : List Value), us.length = ps.length → bindArgs (PySem.W.fnOf x x (defArgs st) (defBody st) (defScope st) .none kV doc pm an cdv ct) ⟨us, []⟩ = pure (ps.zip us))
    (hb : ∀ X : Cx, X.prog = P → X.w = w → X.K = K → X.mg = mg → X.base = base → DCtx X N (defScope st) k → (∃ q n f cd, X.env = envOfC q (defScope st) n f cd) → ∀ ds, Pre ds → tupdA ds = true → BS X (defBody st) (none :: (startD N.tail ds)) 0 none m (fun _ _ => False) (Post ds)) (hN : 0 < N.length) :
    Kn P w K mg base x ps (spBx K m Pre Post) (k + 1) := by
  refine def_raw A S (fun vs H Q E h => ?_) hbi fun X h1 h2 h3 h4 h5 c he vs H Q E h => ?_
  · obtain ⟨b, n, ws, ds, rfl, _, _, hv, _, hp, _⟩ := h
    rw [List.length_cons, hv.len]
    exact hl ds hp
  · obtain ⟨b, n, ws, ds, rfl, hn, hbx, hv, ht, hp, q⟩ := h
    subst h3
    have e : L2.start N (.ref b :: ws) = some (.ref b) :: L2.start N.tail ws := by
      cases N with
      | nil => cases hN
      | cons y r => simp [L2.start]
    rw [e]
    have E0 := EnvD.start (K := X.K) (H := H) (N := N.tail) hv
    refine hb X h1 h2 rfl h4 h5 c he ds hp ht H _ H b n _ hn ⟨SBx.refl, ⟨by simp [E0.len], fun i d hi => ?_⟩, fun i d hi => ?_, rfl, hbx, trivial⟩ (fun _ _ _ _ z => z.elim) fun d v H' z t hd s hb => q v H' d z t hd s hb
    · cases i with
      | zero => cases hi
      | succ i => exact E0.get i d hi
    · cases i with
      | zero => cases hi
      | succ i =>
        have hi' : (startD N.tail ds)[i]? = some (some d) := hi
        unfold startD at hi'
        by_cases hlt : i < ds.length
        · rw [List.getElem?_append_left (by simpa using hlt), List.getElem?_map] at hi'
          cases e2 : ds[i]? with
          | none => rw [e2] at hi'; cases hi'
          | some d' =>
            rw [e2] at hi'
            cases hi'
            exact tupdA_all.mp ht d (List.mem_of_getElem? e2)
        · rw [List.getElem?_append_right (by simpa using hlt), List.getElem?_replicate] at hi'
          split at hi' <;> cases hi'
end SC

set_option maxHeartbeats 4000000
/-! a draw from a box; a unit drawn -/
namespace SC
open PySem PySem.Spec PyProof.Rows L2 RZ
theorem EnvD.boxset {K : PySem.W.Frag} {H : Hp} {σ : L2.St} {ρ : Rho} {es : List PyData} {b : Addr} {xs ys : List V} (E : EnvD K H σ ρ) (T : ∀ (i : Nat) d, i ≠ 0 → ρ[i]? = some (some d) → tupd d = true) (h0 : σ[0]? = some (some (.ref b))) (hb : H b = some (.lst xs)) (hy : DqA K H ys es) (te : tupdA es = true) :
    EnvD K (upd H b (.lst ys)) σ (ρ.set 0 (some (.list es))) := by
  have kp : Kept H (upd H b (.lst ys)) := Kept.upd hb
  refine ⟨by simp [E.len], fun i d hi => ?_⟩
  by_cases z : 0 = i
  · subst z
    have hl : 0 < ρ.length := by
      rw [← E.len]
      exact (List.getElem?_eq_some_iff.mp h0).1
    rw [List.getElem?_set_self hl] at hi
    cases hi
    exact ⟨_, h0, .lst upd_same (hy.kept kp _ _ te)⟩
  · rw [List.getElem?_set_ne z] at hi
    obtain ⟨v, h1, h2⟩ := E.get i d hi
    exact ⟨v, h1, h2.kept kp _ _ (T i d (fun q => z q.symm) hi)⟩
def PR_take (ds : List PyData) : Prop := ∃ m : Nat, ds = [.int (m : Int)] ∧ 0 < m ∧ m < 1073741824
def PO_take (ds : List PyData) (d : PyData) : Prop := ∃ m r : Nat, ds = [.int (m : Int)] ∧ d = .int (r : Int) ∧ r < m
section
variable {X : Cx} {N : List Str} {sc : Scope} {k : Nat} {ρ : Rho} {a b : Expr} {pos : Pos} {i j : Int}
theorem pd_pow (ha : PD X a ρ (.int i)) (hb : PD X b ρ (.int j)) (h : CPow i j) : PD X (.BinOp a .Pow b pos) ρ (.int (i ^ j.toNat)) := pd_op op_pow ha hb (rd_I h fun _ => .int _)
end
theorem we_var {X : Cx} {N : List Str} {sc : Scope} {k : Nat} {x : Str} {p : Pos} {σ : L2.St} {H : Hp} {Q : VK} {v : V} (c : Ctx X N sc k) (i : Nat) (hs : σ[i]? = some (some v)) (q : Q v H) (hN : N[i]? = some x := by rfl) (hv : Vis sc x := by first | exact Or.inl rfl | exact Or.inr (Or.inl rfl) | exact Or.inr (Or.inr rfl))
    (hd : (x == ("__debug__" : Str)) = false := by decide) (hcd : (x == ("__classdict__" : Str)) = false := by decide) : WE X (.Name x p) σ H Q := ⟨_, pe_var (i := i) (by rw [c.hN]; exact hN) (c.vis hv) hd hcd, v, hs, q⟩
theorem we_int {X : Cx} {i : Int} {j : Nat} {pos : Pos} {σ : L2.St} {H : Hp} {Q : VK} (q : Q (.int i) H) : WE X (.Constant (.int i) j pos) σ H Q := ⟨_, pe_int, q⟩
theorem dqa_two {K : PySem.W.Frag} {H : Hp} {vs : List V} {i j : Int} (h : DqA K H vs [.int i, .int j]) : vs = [.int i, .int j] := by
  cases h with
  | cons h1 h2 =>
    cases h1
    cases h2 with
    | cons h3 h4 =>
      cases h3
      cases h4
      rfl
theorem dq_box {K : PySem.W.Frag} {H : Hp} {b : Addr} {x y z : Int} (h : H b = some (.lst [.int x, .int y, .int z])) : Dq K H (.ref b) (.list [.int x, .int y, .int z]) := .lst h (.cons (.int _) (.cons (.int _) (.cons (.int _) .nil)))
theorem tp_box {l : PyData} {m : Int} {o : Option PyData} (h : ∀ d, o = some d → tupd d = true) : ∀ (i : Nat) d, i ≠ 0 → ([some l, some (.int m), o, none] : Rho)[i]? = some (some d) → tupd d = true
  | 0, _, h0, _ => absurd rfl h0
  | 1, _, _, e => by cases e; rfl
  | 2, d, _, e => h d (by simpa using e)
  | 3, _, _, e => by cases e
  | n + 4, _, _, e => by cases e
theorem mod_nat (t : Int) {m : Nat} (hm : 0 < m) : ∃ r : Nat, PyData.int (t % (m : Int)) = .int (r : Int) ∧ r < m :=
  ⟨(t % (m : Int)).toNat, by rw [Int.toNat_of_nonneg (Int.emod_nonneg _ (by omega))], by have := Int.emod_lt_of_pos t (show (0 : Int) < m by omega); omega⟩
theorem kn_take {P : Program} {w : World} {K : PySem.W.Frag} {mg : Str → Option Value} {base : Heap} (A : At K mg "_law_take" s50) (fr : Fr mg) : Kn P w K mg base "_law_take" ["_law_box_here", "_law_many"] (spBx K 1 PR_take PO_take) 1 := by
  refine def_raw A sc50 (fun vs H Q E h => ?_) (fun _ _ _ _ _ _ us hl => match us, hl with | [_, _], _ => rfl) fun X h1 h2 h3 h4 h5 c he vs H Q E h => ?_
  · obtain ⟨b, n, ws, ds, rfl, _, _, hv, _, ⟨m, rfl, _⟩, _⟩ := h
    rw [List.length_cons, hv.len]
    rfl
  · subst h3 h4
    obtain ⟨b, n, ws, ds, rfl, hn, ⟨x, y, z, hb, hx, hy, hy2, hz, hzn⟩, hv, _, ⟨m, rfl, hm0, hm⟩, q⟩ := h
    have cc := c.toCtx
    have E0 : EnvD X.K H (L2.start ["_law_box_here", "_law_many", "_law_found", "_law_once"] (.ref b :: ws)) [some (.list [.int x, .int y, .int z]), some (.int (m : Int)), none, none] := EnvD.start (ds := [.list [.int x, .int y, .int z], .int (m : Int)]) (.cons (dq_box hb) hv)
    have hs0 : (L2.start ["_law_box_here", "_law_many", "_law_found", "_law_once"] (.ref b :: ws))[0]? = some (some (.ref b)) := rfl
    generalize L2.start ["_law_box_here", "_law_many", "_law_found", "_law_once"] (.ref b :: ws) = σ at E0 hs0
    refine ws_cons (ws_of (ps_if pt_W pss_W pss_W) ((pdt_gt (pd_ixL (pd_var cc 0) pd_int) pd_int : PDT X _ _ _) σ H E0 _ fun H1 s1 => ?_))
    have E1 := E0.mono s1
    have hb1 := s1 _ _ hb
    by_cases h0 : (0 : Int) < x
    · rw [decide_eq_true h0, if_pos rfl]
      refine ws_cons (ws_of (ps_asg (pe_callB call_divmod (cc.gl rfl) fr.b_divmod boot_divmod pa_W) (pg_tup cc.calm (pgs_cons (pg_sub pe_W pe_W set_list) (pgs_cons (pg_of c 2) pgs_nil))) (hw := rfl)) ?_)
      refine (pda_cons (pd_ixL (pd_var cc 0) pd_int) (pda_cons (pd_var cc 1) pda_nil) : PDA X _ _ _) σ H1 E1 _ fun vs H2 s2 hvs => ?_
      have hvs' := dqa_two hvs
      subst hvs'
      refine ⟨x, (m : Int), rfl, ⟨by omega, by omega⟩, fun p np => ?_⟩
      have s3 : Same H2 (upd H2 p (.tup [.int (x / m), .int (x % m)])) := same_upd np
      have E3 := (E1.mono s2).mono s3
      have hb3 := s3 _ _ (s2 _ _ hb1)
      refine ⟨p, _, rfl, SqT.of upd_same, rfl, _, _, rfl, we_var cc 0 hs0 (we_int ?_)⟩
      refine ⟨b, _, 0, 0, rfl, rfl, hb3, rfl, _, _, rfl, ?_⟩
      have s03 : SBx b H (upd (upd H2 p (.tup [.int (x / m), .int (x % m)])) b (.lst [.int (x / m), .int y, .int z])) := fun a o na e => by
        rw [upd_ne na]
        exact s3 _ _ (s2 _ _ (s1 _ _ e))
      have E4 : EnvD X.K (upd (upd H2 p (.tup [.int (x / m), .int (x % m)])) b (.lst [.int (x / m), .int y, .int z])) (σ.set 2 (some (.int (x % m)))) _ :=
        (E3.boxset (tp_box nofun) hs0 hb3 (ys := [.int (x / m), .int y, .int z]) (es := [.int (x / m), .int y, .int z]) (.cons (.int _) (.cons (.int _) (.cons (.int _) .nil))) rfl).set (.int (x % m)) 2
      have hr : x % m = ((x % m).toNat : Int) := (Int.toNat_of_nonneg (Int.emod_nonneg _ (by omega))).symm
      refine ⟨rfl, ws_cons (ws_of (ps_ret pe_W) ((pd_var cc 2 : PD X _ _ (.int (x % m))) _ _ E4 _ fun v H5 s5 hv5 => ?_))⟩
      exact q v H5 (.int (x % m)) ⟨m, (x % m).toNat, rfl, by rw [← hr], by have := Int.emod_lt_of_pos x (show (0 : Int) < m by omega); omega⟩ rfl hv5 (s03.trans (SBx.of_same s5))
        ⟨x / m, y, z, s5 _ _ upd_same, Int.ediv_nonneg hx (by omega), hy, hy2, hz, by omega⟩
    · rw [decide_eq_false h0, if_neg (by decide)]
      refine wss_nil (ws_cons (ws_of (ps_asg pe_W (pg_sub pe_W pe_W set_list)) ?_))
      refine (pd_add (pd_ixL (pd_var cc 0) pd_int) pd_int : PD X _ _ (.int (z + 1))) σ H1 E1 _ fun v H2 s2 hv2 => ?_
      cases hv2
      have hb2 := s2 _ _ hb1
      refine we_var cc 0 hs0 (we_int ⟨b, _, 2, 2, rfl, rfl, hb2, rfl, ?_⟩)
      have s03 : SBx b H (upd H2 b (.lst [.int x, .int y, .int (z + 1)])) := fun a o na e => by
        rw [upd_ne na]
        exact s2 _ _ (s1 _ _ e)
      have E4 : EnvD X.K (upd H2 b (.lst [.int x, .int y, .int (z + 1)])) σ _ := (E1.mono s2).boxset (tp_box nofun) hs0 hb2 (ys := [.int x, .int y, .int (z + 1)]) (es := [.int x, .int y, .int (z + 1)]) (.cons (.int _) (.cons (.int _) (.cons (.int _) .nil))) rfl
      have hz1 : 0 ≤ z + 1 ∧ z + 1 ≤ 100000 := by omega
      have hon : ∀ t : Int, 0 ≤ t % 2147483647 ∧ t % 2147483647 < 2147483647 := fun t => ⟨Int.emod_nonneg _ (by decide), Int.emod_lt_of_pos _ (by decide)⟩
      have ho2 : ∀ t : Int, 0 ≤ t % 2147483629 ∧ t % 2147483629 < 2147483629 := fun t => ⟨Int.emod_nonneg _ (by decide), Int.emod_lt_of_pos _ (by decide)⟩
      refine (psd_set c 3 (pd_mod (pd_pow (pd_add (pd_ixL (pd_var cc 0) pd_int) (pd_mul pd_int (pd_ixL (pd_var cc 0) pd_int) (mulW (x := 16) (y := 17) (by decide) (by omega)))) pd_int ⟨by decide, by decide, ?_⟩) pd_int (by decide)) (psd_ret
        (pd_mod (pd_fdiv (pd_mod (pd_add (pd_mul (pd_var cc 3) pd_int (mulW (x := 31) (y := 16) ?_ (by decide))) (pd_mul (pd_mul (pd_ixL (pd_var cc 0) pd_int) (pd_ixL (pd_var cc 0) pd_int) (mulW (x := 17) (y := 17) (by omega) (by omega))) pd_int (mulW (x := 34) (y := 13) ?_ (by decide)))) pd_int (by decide)) pd_int ⟨by decide, by decide⟩) (pd_var cc 1) (by omega)) (mod_nat _ hm0))
        : PSD X _ _ (fun _ => False) (fun d => ∃ r : Nat, d = .int (r : Int) ∧ r < m)) σ _ _ E4 (fun _ _ _ z => z.elim) fun d v H5 hd s5 hv5 => ?_
      · omega
      · have := hon ((y + 39373 * (z + 1)) ^ (5 : Int).toNat)
        omega
      · have h1 : (z + 1) * (z + 1) ≤ 100000 * 100000 := Int.mul_le_mul hz1.2 hz1.2 hz1.1 (by decide)
        have h2 : 0 ≤ (z + 1) * (z + 1) := Int.mul_nonneg hz1.1 hz1.1
        generalize (z + 1) * (z + 1) = u at h1 h2
        omega
      · obtain ⟨r, rfl, hr⟩ := hd
        exact q v H5 _ ⟨m, r, rfl, rfl, hr⟩ rfl hv5 (s03.trans (SBx.of_same s5)) ⟨x, y, z + 1, s5 _ _ upd_same, hx, hy, hy2, by omega, by omega⟩
end SC

set_option maxHeartbeats 4000000
/-! more rules of code that draws -/
namespace SC
open PySem PySem.Spec PyProof.Rows L2 RZ
theorem wipe_get {i : Nat} {σ : L2.St} : ∀ {vs : List Nat}, i ∉ vs → (wipe σ vs)[i]? = σ[i]?
  | [], _ => rfl
  | v :: vs, h => by
    unfold wipe
    rw [List.getElem?_set_ne (fun z => h (by rw [z]; exact List.mem_cons_self))]
    exact wipe_get fun z => h (List.mem_cons_of_mem _ z)
theorem wipe_eq {i : Nat} {σ σ' : L2.St} {vs : List Nat} (h : wipe σ' vs = wipe σ vs) (hi : i ∉ vs) : σ'[i]? = σ[i]? := by
  rw [← wipe_get hi, h, wipe_get hi]
section
variable {K : PySem.W.Frag} {d d1 d2 d3 d4 : PyData} {vs : List Nat}
theorem gd_tup3 {i j l : Nat} (hi : i ∈ vs) (hj : j ∈ vs) (hl : l ∈ vs) : GD K (gTup K 3 (gCons (gName i) (gCons (gName j) (gCons (gName l) gNil)))) (.tuple [d1, d2, d3]) (fun ρ => ((ρ.set i (some d1)).set j (some d2)).set l (some d3)) vs := fun v σ H ρ hv E Q q => by
  cases hv with
  | tup h1 h2 =>
    cases h2 with
    | cons k1 h2 =>
      cases h2 with
      | cons k2 h2 =>
        cases h2 with
        | cons k3 h2 =>
          cases h2
          refine ⟨_, _, rfl, h1, rfl, _, _, rfl, _, _, rfl, _, _, rfl, rfl, ?_⟩
          exact q _ (((E.set k1 i).set k2 j).set k3 l) (by rw [wipe_set hl, wipe_set hj, wipe_set hi])
theorem gd_tup4 {i j l m : Nat} (hi : i ∈ vs) (hj : j ∈ vs) (hl : l ∈ vs) (hm : m ∈ vs) : GD K (gTup K 4 (gCons (gName i) (gCons (gName j) (gCons (gName l) (gCons (gName m) gNil))))) (.tuple [d1, d2, d3, d4]) (fun ρ => (((ρ.set i (some d1)).set j (some d2)).set l (some d3)).set m (some d4)) vs := fun v σ H ρ hv E Q q => by
  cases hv with
  | tup h1 h2 =>
    cases h2 with
    | cons k1 h2 =>
      cases h2 with
      | cons k2 h2 =>
        cases h2 with
        | cons k3 h2 =>
          cases h2 with
          | cons k4 h2 =>
            cases h2
            refine ⟨_, _, rfl, h1, rfl, _, _, rfl, _, _, rfl, _, _, rfl, _, _, rfl, rfl, ?_⟩
            exact q _ ((((E.set k1 i).set k2 j).set k3 l).set k4 m) (by rw [wipe_set hm, wipe_set hl, wipe_set hj, wipe_set hi])
end
section
variable {X : Cx} {N : List Str} {sc : Scope} {k : Nat} {ρ : Rho} {d d1 d2 : PyData} {e a b c3 : Expr} {rest body els : List Stmt} {p p2 pos : Pos} {j m m1 m2 m3 : Nat} {P P1 P2 P3 : PyData → Prop} {o : Own} {Nx : Rho → Own → Prop} {R : PyData → Prop} {t : Bool}
/-- tg = e, tg names -/
theorem bs_asg {tg : Expr} {g : TG} (F : PyData → Rho → Rho) (vs : List Nat) (he : BE X e ρ j m1 P) (hg : PG X tg g) (gd : ∀ d, P d → GD X.K g d (F d) vs) (ht : ∀ d, P d → tupd d = true → TP ρ → TP (F d ρ)) (hk : ∀ d, P d → BS X rest (F d ρ) j o m2 Nx R) (hj : j ∉ vs) (ho : ∀ x, o = some x → x.1 ∉ vs)
    (hs : swapsWithSole [tg] e pos.line X.env = pure false := by rfl) (hw : swappedStores [tg] e X.env = pure none := by rfl) (h1 : (assignEach [tg] X.env).map (·.2) = [assign tg X.env] := by rfl) : BS X (.Assign [tg] e pos :: rest) ρ j o (m1 + m2) Nx R := fun H0 σ H b n D hn B nx rt =>
  ws_cons (ws_of (ps_asg pe_W hg hs hw h1) (he σ H b n (by omega) B.env B.tp B.slot B.bx _ fun v H1 d hd td hv s hb1 => gd d hd v σ H1 ρ hv (B.mono s hb1).env _ fun σ' E' hw' => by
    have B1 := B.mono s hb1
    refine hk d hd H0 σ' H1 b (n + m1) D (by omega) ⟨B1.fr, E', ht d hd td B1.tp, by rw [wipe_eq hw' hj]; exact B1.slot, B1.bx, ?_⟩ (fun σ' H' ρ' o' z B' => nx σ' H' ρ' o' z (B'.mono SBx.refl (B'.bx.mono (by omega)))) fun d v H' z t hv s hb => rt d v H' z t hv s (hb.mono (by omega))
    cases o with
    | none => trivial
    | some x =>
      obtain ⟨jl, acc⟩ := x
      obtain ⟨l, vs', h1, h⟩ := B1.own
      exact ⟨l, vs', by rw [wipe_eq hw' (ho _ rfl)]; exact h1, h⟩))
/-- x = [..]: the def's own list -/
theorem bs_own {x : Str} {es : List Expr} {ds : List PyData} {lp : Pos} (c : DCtx X N sc k) (i : Nat) (he : PDA X es ρ ds) (td : tupdA ds = true) (hl : ds.length ≤ 1000) (hk : BS X rest ρ j (some (i, ds)) m Nx R) (ho : o = none) (hρ : ρ[i]? = some none) (hij : i ≠ j := by decide) (hN : N[i]? = some x := by rfl) (hx : Loc sc x := by first | exact Or.inl rfl | exact Or.inr rfl)
    (hs : swapsWith (.List es lp) (some (.Name x p)) pos.line X.env = pure false := by rfl) : BS X (.Assign [.Name x p] (.List es lp) pos :: rest) ρ j o m Nx R := fun H0 σ H b n D hn B nx rt =>
  ws_cons (ws_of (ps_set (i := i) c.nd' (by rw [c.hN]; exact hN) (c.loc hx) (pe_lst pa_W) hs (.inl (c.fn x))) (he σ H B.env _ fun vs H1 s1 hv => ⟨sz_le (by rw [hv.len]; omega), fun al nl => by
    subst ho
    have s0 := s1.trans (same_upd (o := .lst vs) nl)
    have sa : SBx b H (upd H1 al (.lst vs)) := SBx.of_same s0
    have B0 := B.mono sa (B.bx.same s0)
    have lb : al ≠ b := by
      obtain ⟨xs, e⟩ := (B.bx.same s1).some
      exact (ne_of_none e nl).symm
    have n0 : H0 al = none := by
      cases e : H0 al with
      | none => rfl
      | some u =>
        have := s1 al u (B.fr al u lb e)
        rw [nl] at this
        cases this
    have hiσ : i < σ.length := by
      rw [B.env.len]
      exact (List.getElem?_eq_some_iff.mp hρ).1
    have E3 : EnvD X.K (upd H1 al (.lst vs)) (σ.set i (some (.ref al))) ρ := ⟨by simp [B.env.len], fun r dd h => by
      by_cases hr : i = r
      · subst hr
        rw [hρ] at h
        cases h
      · rw [List.getElem?_set_ne hr]
        exact B0.env.get r dd h⟩
    exact hk H0 _ _ b n D hn ⟨B0.fr, E3, B0.tp, by rw [List.getElem?_set_ne hij]; exact B0.slot, B0.bx, ⟨al, vs, List.getElem?_set_self hiσ, n0, lb, upd_same, hv.mono (same_upd nl), td⟩⟩ nx rt⟩))
/-- tg = xs[e], xs the own list -/
theorem bs_pickO {x : Str} {tg : Expr} {g : TG} {jl : Nat} {acc : List PyData} {ps : Pos} (c : DCtx X N sc k) (F : PyData → Rho → Rho) (vs : List Nat) (he : BE X e ρ j m1 P) (hP : ∀ d, P d → ∃ i r, d = .int i ∧ atI acc i = some r ∧ P2 r) (hg : PG X tg g) (gd : ∀ d, P2 d → GD X.K g d (F d) vs) (ht : ∀ d, P2 d → tupd d = true → TP ρ → TP (F d ρ))
    (hk : ∀ d, P2 d → BS X rest (F d ρ) j none m2 Nx R) (hj : j ∉ vs) (hN : N[jl]? = some x := by rfl) (hv : Vis sc x := by first | exact Or.inl rfl | exact Or.inr (Or.inl rfl) | exact Or.inr (Or.inr rfl)) (hd : (x == ("__debug__" : Str)) = false := by decide) (hcd : (x == ("__classdict__" : Str)) = false := by decide)
    (hpl : PlainIx e := by exact fun _ _ => rfl) (hs : swapsWithSole [tg] (.Subscript (.Name x p) e ps) pos.line X.env = pure false := by rfl) (hw : swappedStores [tg] (.Subscript (.Name x p) e ps) X.env = pure none := by rfl) (h1 : (assignEach [tg] X.env).map (·.2) = [assign tg X.env] := by rfl) :
    BS X (.Assign [tg] (.Subscript (.Name x p) e ps) pos :: rest) ρ j (some (jl, acc)) (m1 + m2) Nx R := fun H0 σ H b n D hn B nx rt => by
  obtain ⟨l, vs', h1', h2', h3, h4, h5, h6⟩ := B.own
  refine ws_cons (ws_of (ps_asg (pe_ix ix_list (pe_var (i := jl) (by rw [c.hN]; exact hN) (c.vis hv) hd hcd) pe_W hpl) hg hs hw h1) ⟨.ref l, h1', ?_⟩)
  refine he σ H b n (by omega) B.env B.tp B.slot B.bx _ fun v H1 d hd' td hv' s hb1 => ?_
  obtain ⟨i, r, rfl, ha, hr⟩ := hP d hd'
  cases hv'
  have B1 := B.mono s hb1
  have hl1 := s _ _ h3 h4
  have hv1 := h5.kept (B.bx.kept s) _ _ h6
  obtain ⟨v, e1, e2⟩ := atI_dq hv1 ha
  have tr : tupd r = true := by
    unfold atI at ha
    cases q2 : ixN acc.length i with
    | none => rw [q2] at ha; cases ha
    | some z =>
      rw [q2] at ha
      exact tupdA_all.mp h6 r (List.mem_of_getElem? ha)
  refine ⟨l, vs', i, v, rfl, rfl, SqL.of hl1, e1, gd r hr v σ H1 ρ e2 B1.env _ fun σ' E' hw' => ?_⟩
  exact hk r hr H0 σ' H1 b (n + m1) D (by omega) ⟨B1.fr, E', ht r hr tr B1.tp, by rw [wipe_eq hw' hj]; exact B1.slot, B1.bx, trivial⟩ (fun σ' H' ρ' o' z B' => nx σ' H' ρ' o' z (B'.mono SBx.refl (B'.bx.mono (by omega)))) fun d v H' z t hv s hb => rt d v H' z t hv s (hb.mono (by omega))
/-- the own list is a datum from here on -/
theorem bs_retO {jl : Nat} {acc : List PyData} (he : PD X e (ρ.set jl (some (.list acc))) d) (td : tupd d = true) (h : R d) : BS X (.Return (some e) pos :: rest) ρ j (some (jl, acc)) m Nx R := fun H0 σ H b n D hn B nx rt => by
  obtain ⟨l, vs', h1', h2', h3, h4, h5, h6⟩ := B.own
  refine ws_cons (ws_of (ps_ret pe_W) ?_)
  have E : EnvD X.K H σ (ρ.set jl (some (.list acc))) := ⟨by simp [B.env.len], fun r dd hh => by
    by_cases hr : jl = r
    · subst hr
      by_cases hlt : jl < ρ.length
      · rw [List.getElem?_set_self hlt] at hh
        cases hh
        exact ⟨_, h1', .lst h4 h5⟩
      · rw [List.getElem?_eq_none (by simpa using hlt)] at hh
        cases hh
    · rw [List.getElem?_set_ne hr] at hh
      exact B.env.get r dd hh⟩
  exact he σ H E _ fun v H1 s1 hv => rt d v H1 h td hv (B.fr.trans (SBx.of_same s1)) ((B.bx.same s1).mono (by omega))
/-- the rest draws no more -/
theorem bs_pure {R' : PyData → Prop} (h : PSD X rest ρ (fun _ => False) R') (hR : ∀ d, R' d → R d ∧ tupd d = true) : BS X rest ρ j o m Nx R := fun H0 σ H b n D hn B nx rt =>
  h σ H D B.env (fun _ _ _ z => z.elim) fun d v H' z s hv => rt d v H' (hR d z).1 (hR d z).2 hv (B.fr.trans (SBx.of_same s)) ((B.bx.same s).mono (by omega))
/-- an if that goes on with the rest in each way, its test drawn from none -/
theorem pdt_int {i : Int} (h : PD X e ρ (.int i)) (he : ∀ whole, isTrue e X.env whole = (do let v ← whole; standAt e.pos; holding [v] (truthy v)) := by intro _; rfl) : PDT X e ρ (i != 0) := PDT.mk (pt_truth pe_W he) fun σ H E Q q => h σ H E _ fun v H1 s1 hv => by
  cases hv
  exact ⟨_, rfl, q H1 s1⟩
/-- t[::-1], t a pair -/
theorem pd_rev2 {n : Nat} {p1 p2 p3 : Pos} (ha : PD X a ρ (.tuple [d1, d2])) : PD X (.Subscript a (.Slice none none (some (.UnaryOp .USub (.Constant (.int 1) n p1) p2)) p3) pos) ρ (.tuple [d2, d1]) := PD.mk (pe_revT2 pe_W) fun σ H E Q q => ha σ H E _ fun v H1 s1 hv => by
  cases hv with
  | tup h1 h2 =>
    cases h2 with
    | cons k1 h2 =>
      cases h2 with
      | cons k2 h2 =>
        cases h2
        exact ⟨_, _, _, rfl, h1, fun p np => q _ _ (s1.trans (same_upd np)) (.tup (SqT.of upd_same) (.cons (k2.mono (same_upd np)) (.cons (k1.mono (same_upd np)) .nil)))⟩
/-- a draw below a literal -/
theorem be_take {i : Int} {z : Nat} {p3 : Pos} (c : Ctx X N sc k) (mm : Nat) (g : KnX X "_law_take" ["_law_box_here", "_law_many"] (spBx X.K 1 PR_take PO_take) 1) (hi : i = (mm : Int) := by rfl) (hm : 0 < mm := by decide) (hm2 : mm < 1073741824 := by decide)
    (hj : 1 ≤ k := by decide) (hN : N[0]? = some ("_law_box_here" : Str) := by rfl) (hv : Vis sc "_law_box_here" := by first | exact Or.inl rfl | exact Or.inr (Or.inl rfl) | exact Or.inr (Or.inr rfl)) (hg : sc.names.lookup ("_law_take" : Str) = some .globalImplicit := by rfl) :
    BE X (.Call (.Name "_law_take" p) [.Name "_law_box_here" p2, .Constant (.int i) z p3] [] pos) ρ 0 1 (fun d => ∃ r : Nat, d = .int (r : Int) ∧ r < mm) :=
  be_weak (be_draw c g (bea_cons (be_pd pd_int) bea_nil) (fun ds ⟨d, r, e1, e2, e3⟩ => ⟨mm, by rw [e1, e2, e3, hi], hm, hm2⟩) hj hN hv (by decide) (by decide) hg) (Nat.le_refl _) fun d ⟨ds, ⟨d0, r, e1, e2, e3⟩, m', r', h1, h2, h3⟩ => by
    subst e1 e2 e3
    injection h1 with h1 _
    injection h1 with h1
    exact ⟨r', h2, by omega⟩
end
end SC

set_option maxHeartbeats 4000000
/-! numbers over a common bottom; a unit drawn -/
namespace SC
open PySem PySem.Spec PyProof.Rows L2 RZ
/-- q over D, its top at most M -/
def Cd (D M : Nat) (q : Rat) : Prop := ∃ k : Int, q * (D : Rat) = (k : Rat) ∧ k.natAbs ≤ M
section
variable {D M D' M' : Nat} {p q : Rat}
theorem Cd.mono (h : Cd D M q) (k : M ≤ M') : Cd D M' q := let ⟨x, h1, h2⟩ := h; ⟨x, h1, Nat.le_trans h2 k⟩
theorem Cd.add (h : Cd D M p) (g : Cd D M' q) : Cd D (M + M') (p + q) := by
  obtain ⟨x, h1, h2⟩ := h
  obtain ⟨y, g1, g2⟩ := g
  refine ⟨x + y, ?_, by omega⟩
  rw [Rat.intCast_add, ← h1, ← g1]
  grind
theorem Cd.neg (h : Cd D M p) : Cd D M (-p) := by
  obtain ⟨x, h1, h2⟩ := h
  refine ⟨-x, ?_, by omega⟩
  rw [Rat.intCast_neg, ← h1]
  grind
theorem Cd.mul (h : Cd D M p) (g : Cd D' M' q) : Cd (D * D') (M * M') (p * q) := by
  obtain ⟨x, h1, h2⟩ := h
  obtain ⟨y, g1, g2⟩ := g
  refine ⟨x * y, ?_, by rw [Int.natAbs_mul]; exact Nat.mul_le_mul h2 g2⟩
  rw [Rat.intCast_mul, ← h1, ← g1, Rat.natCast_mul]
  grind
theorem Cd.scale (c : Nat) (h : Cd D M p) : Cd (D * c) (M * c) p := by
  obtain ⟨x, h1, h2⟩ := h
  refine ⟨x * (c : Int), ?_, by rw [Int.natAbs_mul]; exact Nat.mul_le_mul h2 (by omega)⟩
  rw [Rat.intCast_mul, ← h1, Rat.natCast_mul, Rat.intCast_natCast]
  grind
theorem Cd.eq (h : Cd D M p) (e : p = q) : Cd D M q := e ▸ h
theorem Cd.sz {n : Nat} (h : Cd D M q) (d0 : 0 < D) (hd : D < 2 ^ n) (hm : M < 2 ^ n) : Sz n q := by
  obtain ⟨x, h1, h2⟩ := h
  have e : q = Rat.divInt x (D : Int) := by
    rw [Rat.divInt_eq_div, Rat.intCast_natCast, ← h1]
    have : (D : Rat) ≠ 0 := by
      intro z
      have : D = 0 := by exact_mod_cast z
      omega
    grind
  rw [e]
  refine ⟨?_, ?_⟩
  · have := di_num_le x (d := (D : Int)) (by omega)
    omega
  · have := di_den_le x (d := (D : Int)) (by omega)
    omega
theorem Cd.di {n : Int} {d : Nat} (hd : 0 < d) : Cd d n.natAbs (Rat.divInt n (d : Int)) := by
  refine ⟨n, ?_, Nat.le_refl _⟩
  rw [Rat.divInt_eq_div, Rat.intCast_natCast]
  have : (d : Rat) ≠ 0 := by
    intro z
    have : d = 0 := by exact_mod_cast z
    omega
  grind
/-- over another bottom -/
theorem Cd.dvd (h : Cd D M q) (c : Nat) (e : D * c = D') (hm : M * c ≤ M') : Cd D' M' q := by
  subst e
  exact (h.scale c).mono hm
end
structure CdP (D M : Nat) (p : Pt) : Prop where
  x : Cd D M p.1
  y : Cd D M p.2
theorem CdP.sz {D M n : Nat} {p : Pt} (h : CdP D M p) (d0 : 0 < D) (hd : D < 2 ^ n) (hm : M < 2 ^ n) : SzP n p := ⟨h.x.sz d0 hd hm, h.y.sz d0 hd hm⟩
theorem CdP.mono {D M M' : Nat} {p : Pt} (h : CdP D M p) (k : M ≤ M') : CdP D M' p := ⟨h.x.mono k, h.y.mono k⟩
/-- a unit, over 5525 -/
structure Un (u : Pt) : Prop where
  one : dotP u u = 1
  c : CdP 5525 5525 u
theorem Un.left {u : Pt} (h : Un u) : Un (leftP u) := ⟨by have := h.one; unfold dotP leftP at *; grind, h.c.y.neg, h.c.x⟩
theorem Un.neg {u : Pt} (h : Un u) : Un (negP u) := ⟨by have := h.one; unfold dotP negP at *; grind, h.c.x.neg, h.c.y.neg⟩
theorem left_left (u : Pt) : leftP (leftP u) = negP u := rfl
theorem Un.sz {u : Pt} (h : Un u) {n : Nat} (hn : 13 ≤ n) : SzP n u := (h.c.sz (n := 13) (by decide) (by decide) (by decide)).mono hn
theorem Un.ne {u : Pt} (h : Un u) : negP u ≠ u := fun z => by
  have h1 : -u.1 = u.1 := congrArg Prod.fst z
  have h2 : -u.2 = u.2 := congrArg Prod.snd z
  have h3 := h.one
  unfold dotP at h3
  grind
/-! ### the dict of threes -/
def three (h : Int) : Int × Int := if h = 5 then (3, 4) else if h = 13 then (5, 12) else if h = 17 then (8, 15) else (7, 24)
def H4 (h : Int) : Prop := h = 5 ∨ h = 13 ∨ h = 17 ∨ h = 25
theorem kept_dk {H : Hp} {a : Addr} {x o : HO} (h : H a = some x) (h1 : ∀ xs, x ≠ .tup xs) (h2 : ∀ o u, x ≠ .frz o u) : Kept H (upd H a o) :=
  ⟨fun b xs e => by
    by_cases z : b = a
    · subst z
      rw [h] at e
      injection e with e
      exact absurd e (h1 _)
    · rw [upd_ne z]
      exact e, fun b o u e => by
    by_cases z : b = a
    · subst z
      rw [h] at e
      injection e with e
      exact absurd e (h2 _ _)
    · rw [upd_ne z]
      exact e⟩
theorem mergeK4 (a b c d : V) : mergeK [] [((Sum.inl 5 : Key), a), (Sum.inl 13, b), (Sum.inl 17, c), (Sum.inl 25, d)] = [((Sum.inl 5 : Key), a), (Sum.inl 13, b), (Sum.inl 17, c), (Sum.inl 25, d)] := by
  simp [mergeK, putK]
theorem val4a (a b c d : V) : valV [((Sum.inl 5 : Key), a), (Sum.inl 13, b), (Sum.inl 17, c), (Sum.inl 25, d)] (Sum.inl 5) = some a := by
  simp [valV]
theorem val4b (a b c d : V) : valV [((Sum.inl 5 : Key), a), (Sum.inl 13, b), (Sum.inl 17, c), (Sum.inl 25, d)] (Sum.inl 13) = some b := by
  simp [valV]
theorem val4c (a b c d : V) : valV [((Sum.inl 5 : Key), a), (Sum.inl 13, b), (Sum.inl 17, c), (Sum.inl 25, d)] (Sum.inl 17) = some c := by
  simp [valV]
theorem val4d (a b c d : V) : valV [((Sum.inl 5 : Key), a), (Sum.inl 13, b), (Sum.inl 17, c), (Sum.inl 25, d)] (Sum.inl 25) = some d := by
  simp [valV]
section
variable {X : Cx} {N : List Str} {sc : Scope} {k : Nat} {ρ : Rho} {d1 d2 d3 d4 : PyData} {i v1 v2 v3 v4 : Expr} {pos dp : Pos}
theorem pd_dict4 {h : Int} {n1 n2 n3 n4 : Nat} {p1 p2 p3 p4 : Pos} (c : Ctx X N sc k) (hh : H4 h) (g1 : PD X v1 ρ d1) (g2 : PD X v2 ρ d2) (g3 : PD X v3 ρ d3) (g4 : PD X v4 ρ d4) (t1 : tupd d1 = true) (t2 : tupd d2 = true) (t3 : tupd d3 = true) (t4 : tupd d4 = true) (hi : PD X i ρ (.int h)) (hs : NoSl i) :
    PD X (.Subscript (.Dict [some (.Constant (.int 5) n1 p1), some (.Constant (.int 13) n2 p2), some (.Constant (.int 17) n3 p3), some (.Constant (.int 25) n4 p4)] [v1, v2, v3, v4] dp) i pos) ρ (if h = 5 then d1 else if h = 13 then d2 else if h = 17 then d3 else d4) :=
  PD.mk (pe_dget c.hu (pe_disp (pps_cons pe_int pe_W (pps_cons pe_int pe_W (pps_cons pe_int pe_W (pps_cons pe_int pe_W pps_nil)))) rfl rfl (by simp) (Nat.le_of_ble_eq_true rfl)) pe_W hs) fun σ H E Q q => fun l nl => by
    have s0 : Same H (upd H l (.dK [])) := same_upd nl
    refine g1 σ _ (E.mono s0) _ fun w1 H1 s1 hw1 => g2 σ H1 (E.mono (s0.trans s1)) _ fun w2 H2 s2 hw2 => g3 σ H2 (E.mono (s0.trans (s1.trans s2))) _ fun w3 H3 s3 hw3 => g4 σ H3 (E.mono (s0.trans (s1.trans (s2.trans s3)))) _ fun w4 H4 s4 hw4 => ?_
    have s14 := s1.trans (s2.trans (s3.trans s4))
    have hl4 := s14 _ _ (upd_same (H := H) (a := l) (o := .dK []))
    refine ⟨hl4, [((Sum.inl 5 : Key), w1), (Sum.inl 13, w2), (Sum.inl 17, w3), (Sum.inl 25, w4)], rfl, Nat.le_of_ble_eq_true rfl, ?_⟩
    rw [mergeK4]
    generalize hM : HO.dK [((Sum.inl 5 : Key), w1), (Sum.inl 13, w2), (Sum.inl 17, w3), (Sum.inl 25, w4)] = ho
    have kp : Kept H4 (upd H4 l ho) := kept_dk hl4 (by intro xs z; cases z) (by intro o u z; cases z)
    have s5 : Same H (upd H4 l ho) := fun b o e => by
      rw [upd_ne (ne_of_none e nl)]
      exact s14 _ _ (s0 _ _ e)
    refine hi σ _ (E.mono s5) _ fun w5 H5 s6 hw5 => ?_
    cases hw5
    have hl6 : H5 l = some ho := s6 _ _ upd_same
    rw [← hM] at hl6
    have hg := DGet.k (k := Sum.inl h) hl6
    rcases hh with rfl | rfl | rfl | rfl
    · rw [val4a] at hg
      rw [if_pos rfl] at q
      exact ⟨l, w1, rfl, hg, q _ H5 (s5.trans s6) ((((hw1.mono (s2.trans (s3.trans s4))).kept kp _ _ t1)).mono s6)⟩
    · rw [val4b] at hg
      rw [if_neg (by decide), if_pos rfl] at q
      exact ⟨l, w2, rfl, hg, q _ H5 (s5.trans s6) ((((hw2.mono (s3.trans s4)).kept kp _ _ t2)).mono s6)⟩
    · rw [val4c] at hg
      rw [if_neg (by decide), if_neg (by decide), if_pos rfl] at q
      exact ⟨l, w3, rfl, hg, q _ H5 (s5.trans s6) ((((hw3.mono s4).kept kp _ _ t3)).mono s6)⟩
    · rw [val4d] at hg
      rw [if_neg (by decide), if_neg (by decide), if_neg (by decide)] at q
      exact ⟨l, w4, rfl, hg, q _ H5 (s5.trans s6) (((hw4.kept kp _ _ t4)).mono s6)⟩
end
theorem natAbs_le_of {x y b : Int} (hb : 0 < b) (h : x * x + y * y = b * b) : x.natAbs ≤ b.natAbs := by
  refine Nat.le_of_not_lt fun z => ?_
  have h1 := Nat.mul_self_lt_mul_self z
  have e1 : ((b.natAbs * b.natAbs : Nat) : Int) = b * b := by rw [Int.natCast_mul]; exact Int.natAbs_mul_self' b
  have e2 : ((x.natAbs * x.natAbs : Nat) : Int) = x * x := by rw [Int.natCast_mul]; exact Int.natAbs_mul_self' x
  have e3 : ((y.natAbs * y.natAbs : Nat) : Int) = y * y := by rw [Int.natCast_mul]; exact Int.natAbs_mul_self' y
  omega
theorem un_of {x y b : Int} (hb : b = 1 ∨ H4 b) (h : x * x + y * y = b * b) : Un (Rat.divInt x b, Rat.divInt y b) := by
  have b0 : 0 < b := by rcases hb with rfl | rfl | rfl | rfl | rfl <;> decide
  have hx := natAbs_le_of b0 h
  have hy := natAbs_le_of b0 (show y * y + x * x = b * b by omega)
  have eb : b = ((b.natAbs : Nat) : Int) := by omega
  have cx : ∀ z : Int, z.natAbs ≤ b.natAbs → Cd 5525 5525 (Rat.divInt z b) := fun z hz => by
    rw [eb]
    refine (Cd.di (by omega)).dvd (5525 / b.natAbs) ?_ ?_
    · rcases hb with rfl | rfl | rfl | rfl | rfl <;> decide
    · refine Nat.le_trans (Nat.mul_le_mul_right _ hz) ?_
      rcases hb with rfl | rfl | rfl | rfl | rfl <;> decide
  refine ⟨?_, cx x hx, cx y hy⟩
  unfold dotP
  show Rat.divInt x b * Rat.divInt x b + Rat.divInt y b * Rat.divInt y b = 1
  rw [Rat.divInt_eq_div, Rat.divInt_eq_div]
  have bn : (b : Rat) ≠ 0 := by
    intro z
    have : b = 0 := by exact_mod_cast z
    omega
  have hq : (x : Rat) * x + (y : Rat) * y = (b : Rat) * b := by
    have := congrArg (fun i : Int => (i : Rat)) h
    simpa only [Rat.intCast_add, Rat.intCast_mul] using this
  grind
def cmpD : PyData → Nat → PyData
  | .tuple ds, i => ds.getD i .none
  | _, _ => .none
def PR_unit (ds : List PyData) : Prop := ∃ h, ds = [.int h] ∧ H4 h
def PO_unit (_ : List PyData) (d : PyData) : Prop := ∃ u, d = pt u ∧ Un u
section
variable {P : Program} {w : World} {K : PySem.W.Frag} {mg : Str → Option Value} {base : Heap}
theorem kn_unit (A : At K mg "_law_unit" s60) (f : Fr mg) (g1 : Kn P w K mg base "_law_take" ["_law_box_here", "_law_many"] (spBx K 1 PR_take PO_take) 1) (g2 : Kn P w K mg base "_law_fr" ["_law_top", "_law_bottom"] (spP K PL_fr) 1) :
    Kn P w K mg base "_law_unit" ["_law_box_here", "_law_h"] (spBx K 2 PR_unit PO_unit) 2 := by
  refine def_bx A sc60 (by rintro _ ⟨h, rfl, _⟩; rfl) (fun _ _ _ _ _ _ us hl => match us, hl with | [_, _], _ => rfl) ?_ (by decide)
  rintro X rfl rfl rfl rfl rfl c he _ ⟨h, rfl, hh⟩ _
  have cc := c.toCtx
  have e3 : (if h = 5 then PyData.tuple [.int 3, .int 4] else if h = 13 then .tuple [.int 5, .int 12] else if h = 17 then .tuple [.int 8, .int 15] else .tuple [.int 7, .int 24]) = .tuple [.int (three h).1, .int (three h).2] := by
    rcases hh with rfl | rfl | rfl | rfl <;> rfl
  have h3 : (three h).1 * (three h).1 + (three h).2 * (three h).2 = h * h := by rcases hh with rfl | rfl | rfl | rfl <;> rfl
  refine bs_weak (bs_set c 2 (m1 := 0) (m2 := 2) (be_pd (PD.eq (pd_dict4 cc hh (pd_tup (pda_cons pd_int (pda_cons pd_int pda_nil))) (pd_tup (pda_cons pd_int (pda_cons pd_int pda_nil))) (pd_tup (pda_cons pd_int (pda_cons pd_int pda_nil))) (pd_tup (pda_cons pd_int (pda_cons pd_int pda_nil))) rfl rfl rfl rfl (pd_var cc 1) (fun _ _ => rfl)) e3)) ?_ (apart_none)) (Nat.le_refl _) (fun _ _ z => z) fun _ z => z
  rintro _ rfl
  refine bs_own c 3 (pda_cons (pd_tup (pda_cons pd_int (pda_cons pd_int (pda_cons pd_int pda_nil)))) (pda_cons (pd_catT (pd_var cc 2) (pd_tup (pda_cons (pd_var cc 1) pda_nil)) (by simp) (by simp) (Nat.le_of_ble_eq_true rfl)) (pda_cons (pd_catT (pd_rev2 (pd_var cc 2)) (pd_tup (pda_cons (pd_var cc 1) pda_nil)) (by simp) (by simp) (Nat.le_of_ble_eq_true rfl)) pda_nil))) rfl (Nat.le_of_ble_eq_true rfl) ?_ rfl rfl
  refine bs_pickO c (m1 := 1) (m2 := 1) (P2 := fun r => ∃ x y b, r = .tuple [.int x, .int y, .int b] ∧ (b = 1 ∨ b = h) ∧ x * x + y * y = b * b) (fun d ρ => ((ρ.set 4 (some (cmpD d 0))).set 5 (some (cmpD d 1))).set 6 (some (cmpD d 2))) [4, 5, 6] (be_take cc 3 g1) ?_
    (pg_tup cc.calm (pgs_cons (pg_of c 4) (pgs_cons (pg_of c 5) (pgs_cons (pg_of c 6) pgs_nil)))) ?_ ?_ ?_ (by decide)
  · rintro _ ⟨r, rfl, hr⟩
    match r, hr with
    | 0, _ => exact ⟨_, _, rfl, rfl, 1, 0, 1, rfl, .inl rfl, rfl⟩
    | 1, _ => exact ⟨_, _, rfl, rfl, _, _, h, rfl, .inr rfl, h3⟩
    | 2, _ => exact ⟨_, _, rfl, rfl, _, _, h, rfl, .inr rfl, by omega⟩
  · rintro _ ⟨x, y, b, rfl, _⟩
    exact gd_tup3 (by decide) (by decide) (by decide)
  · rintro _ ⟨x, y, b, rfl, _⟩ _ T
    exact ((T.set rfl 4).set rfl 5).set rfl 6
  rintro _ ⟨x, y, b, rfl, hb, hxy⟩
  have hb' : b = 1 ∨ H4 b := by
    rcases hb with rfl | rfl
    · exact .inl rfl
    · exact .inr hh
  refine bs_weak (bs_for c f.b_range 7 (m1 := 1) (m2 := 0) (m3 := 0) (M := 3) (fun q ρ o => o = none ∧ ∃ x y t, ρ = [none, some (.int h), some (.tuple [.int (three h).1, .int (three h).2]), none, some (.int x), some (.int y), some (.int b), t] ∧ x * x + y * y = b * b) (be_take cc 4 g1) ?_ (by decide) ⟨rfl, x, y, none, rfl, hxy⟩ ?_ ?_) (Nat.le_refl _) (fun _ _ z => z) fun _ z => z
  · rintro _ ⟨r, rfl, hr⟩
    exact ⟨r, rfl, by omega⟩
  · rintro q _ _ _ ⟨rfl, x, y, t, rfl, hxy⟩
    refine ⟨apart_none, bs_weak (bs_par c 4 5 (m1 := 0) (m2 := 0) (m3 := 0) (be_pd (pd_neg (pd_var cc 5))) (be_pd (pd_var cc 4)) ?_ (by obtain ⟨q, n, f, cd, he⟩ := he; rw [he]; rfl) apart_none apart_none) (Nat.le_refl _) (fun _ _ z => z) fun _ z => z⟩
    rintro _ _ rfl rfl
    refine bs_nil ⟨rfl, -y, x, some (.int q), rfl, ?_⟩
    rw [Int.neg_mul_neg]
    omega
  · rintro q _ _ _ _ ⟨rfl, x, y, t, rfl, hxy⟩
    have b0 : 0 < b := by rcases hb' with rfl | rfl | rfl | rfl | rfl <;> decide
    have b9 : b.natAbs < 2 ^ 9000 := Nat.lt_of_lt_of_le (show b.natAbs < 2 ^ 5 by rcases hb' with rfl | rfl | rfl | rfl | rfl <;> decide) (Nat.pow_le_pow_right (by decide) (by decide))
    exact bs_pure (psd_ret (pd_tup (pda_cons (pd_call cc g2 (pda_cons (pd_var cc 4) (pda_cons (pd_var cc 6) pda_nil)) ⟨_, _, rfl, b0, b9, rfl⟩) (pda_cons (pd_call cc g2 (pda_cons (pd_var cc 5) (pda_cons (pd_var cc 6) pda_nil)) ⟨_, _, rfl, b0, b9, rfl⟩) pda_nil))) (R := fun d => d = pt (Rat.divInt x b, Rat.divInt y b)) rfl) fun d z => ⟨⟨_, z, un_of hb' hxy⟩, by rw [z]; rfl⟩
end
end SC

set_option maxHeartbeats 4000000
/-! an arc drawn; what is drawn so far -/
namespace SC
open PySem PySem.Spec PyProof.Rows L2 RZ
def CdPc (D M : Nat) : Pc → Prop
  | .side t => CdP D M t
  | .arc m t _ => CdP D M m ∧ CdP D M t
theorem CdPc.to {D M : Nat} {c : Pc} (h : CdPc D M c) : CdP D M c.to := by
  cases c with
  | side t => exact h
  | arc m t l => exact h.2
theorem CdPc.mono {D M M' : Nat} {c : Pc} (h : CdPc D M c) (k : M ≤ M') : CdPc D M' c := by
  cases c with
  | side t => exact CdP.mono h k
  | arc m t l => exact ⟨CdP.mono h.1 k, CdP.mono h.2 k⟩
theorem CdPc.sz {D M n : Nat} {c : Pc} (h : CdPc D M c) (d0 : 0 < D) (hd : D < 2 ^ n) (hm : M < 2 ^ n) : SzPc n c := by
  cases c with
  | side t => exact CdP.sz h d0 hd hm
  | arc m t l => exact ⟨CdP.sz h.1 d0 hd hm, CdP.sz h.2 d0 hd hm⟩
theorem un_on {b u : Pt} {r : Rat} {M : Nat} (hu : Un u) (hr : Cd 2 18 r) (hb : CdP 11050 M b) : CdP 11050 (M + 99450) (onP b u r) :=
  ⟨hb.x.add (hu.c.x.mul hr), hb.y.add (hu.c.y.mul hr)⟩
theorem arc_ok {b u v : Pt} {r : Rat} (hr : 0 < r) (hu : Un u) (hv : Un v) (hne : v ≠ u) (l : Bool) : OkPc b (.arc (onP b u (-r)) (onP (onP b u (-r)) v r) l) := by
  have h1 := hu.one
  have h2 := hv.one
  obtain ⟨b1, b2⟩ := b
  obtain ⟨u1, u2⟩ := u
  obtain ⟨v1, v2⟩ := v
  unfold dotP at h1 h2
  simp only at h1 h2
  refine ⟨fun z => hne ?_, r, hr, ?_, ?_⟩
  · have z1 : b1 + u1 * -r + v1 * r = b1 := congrArg Prod.fst z
    have z2 : b2 + u2 * -r + v2 * r = b2 := congrArg Prod.snd z
    have e1 : v1 = u1 := by grind
    have e2 : v2 = u2 := by grind
    rw [e1, e2]
  · show r * r = (b1 - (b1 + u1 * -r)) * (b1 - (b1 + u1 * -r)) + (b2 - (b2 + u2 * -r)) * (b2 - (b2 + u2 * -r))
    grind
  · show r * r = (b1 + u1 * -r + v1 * r - (b1 + u1 * -r)) * (b1 + u1 * -r + v1 * r - (b1 + u1 * -r)) + (b2 + u2 * -r + v2 * r - (b2 + u2 * -r)) * (b2 + u2 * -r + v2 * r - (b2 + u2 * -r))
    grind
theorem side_ok {b u : Pt} {r : Rat} (hr : 0 < r) (hu : Un u) : OkPc b (.side (onP b u r)) := by
  have h1 := hu.one
  obtain ⟨b1, b2⟩ := b
  obtain ⟨u1, u2⟩ := u
  unfold dotP at h1
  simp only at h1
  refine ⟨fun z => ?_, r, hr, ?_⟩
  · have z1 : b1 + u1 * r = b1 := congrArg Prod.fst z
    have z2 : b2 + u2 * r = b2 := congrArg Prod.snd z
    have e1 : u1 = 0 := by grind
    have e2 : u2 = 0 := by grind
    rw [e1, e2] at h1
    exact absurd h1 (by grind)
  · show r * r = (b1 + u1 * r - b1) * (b1 + u1 * r - b1) + (b2 + u2 * r - b2) * (b2 + u2 * r - b2)
    grind
theorem abs_ok {x : Rat} (h : x ≠ 0) : ∃ r : Rat, 0 < r ∧ r * r = x * x := by
  rcases Rat.le_total (a := 0) (b := x) with h0 | h0
  · exact ⟨x, by grind, rfl⟩
  · exact ⟨-x, by grind, by grind⟩
theorem close_x {s b : Pt} (h : b.1 ≠ s.1) : OkPc b (.side (s.1, b.2)) := by
  obtain ⟨r, h1, h2⟩ := abs_ok (x := s.1 - b.1) (fun z => h (by grind))
  refine ⟨fun z => h (congrArg Prod.fst z).symm, r, h1, ?_⟩
  show r * r = (s.1 - b.1) * (s.1 - b.1) + (b.2 - b.2) * (b.2 - b.2)
  grind
theorem close_y {s b : Pt} (h1 : b.1 = s.1) (h : b.2 ≠ s.2) : OkPc b (.side s) := by
  obtain ⟨r, h2, h3⟩ := abs_ok (x := s.2 - b.2) (fun z => h (by grind))
  refine ⟨fun z => h (congrArg Prod.snd z).symm, r, h2, ?_⟩
  show r * r = (s.1 - b.1) * (s.1 - b.1) + (s.2 - b.2) * (s.2 - b.2)
  grind
/-! ### what is drawn so far -/
inductive Bd (D : Nat) (s : Pt) : List Pc → Pt → Nat → Prop
  | nil {M : Nat} : CdP D M s → Bd D s [] s M
  | snoc {ps : List Pc} {b : Pt} {M M' : Nat} {c : Pc} : Bd D s ps b M → OkPc b c → CdPc D M' c → M ≤ M' → Bd D s (ps ++ [c]) c.to M'
theorem begin_app {s : Pt} {ps : List Pc} {c : Pc} {i : Nat} (h : i ≤ ps.length) : beginAt ⟨s, ps ++ [c]⟩ i = beginAt ⟨s, ps⟩ i := by
  unfold beginAt
  split
  · rfl
  · unfold pieceAt
    simp only [List.getD_eq_getElem?_getD]
    rw [List.getElem?_append_left (by omega)]
theorem piece_app {s : Pt} {ps : List Pc} {c : Pc} {i : Nat} (h : i < ps.length) : pieceAt ⟨s, ps ++ [c]⟩ i = pieceAt ⟨s, ps⟩ i := by
  unfold pieceAt
  simp only [List.getD_eq_getElem?_getD]
  rw [List.getElem?_append_left h]
theorem piece_last {s : Pt} {ps : List Pc} {c : Pc} : pieceAt ⟨s, ps ++ [c]⟩ ps.length = c := by
  unfold pieceAt
  simp
theorem Bd.all {D M : Nat} {s b : Pt} {ps : List Pc} (h : Bd D s ps b M) : CdP D M s ∧ CdP D M b ∧ beginAt ⟨s, ps⟩ ps.length = b ∧ ∀ i, i < ps.length → OkPc (beginAt ⟨s, ps⟩ i) (pieceAt ⟨s, ps⟩ i) ∧ CdPc D M (pieceAt ⟨s, ps⟩ i) := by
  induction h with
  | nil h => exact ⟨h, h, rfl, fun i hi => absurd hi (Nat.not_lt_zero i)⟩
  | @snoc ps b M M' c h1 h2 h3 h4 ih =>
    obtain ⟨i1, i2, i3, i4⟩ := ih
    refine ⟨i1.mono h4, h3.to, ?_, fun i hi => ?_⟩
    · unfold beginAt
      rw [List.length_append, if_neg (by simp)]
      show (pieceAt _ (ps.length + 1 - 1)).to = _
      rw [Nat.add_sub_cancel, piece_last]
    · rw [List.length_append] at hi
      have hi' : i < ps.length + 1 := hi
      by_cases hlt : i < ps.length
      · rw [begin_app (Nat.le_of_lt hlt), piece_app hlt]
        exact ⟨(i4 i hlt).1, (i4 i hlt).2.mono h4⟩
      · have e : i = ps.length := by omega
        subst e
        rw [begin_app (Nat.le_refl _), piece_last, i3]
        exact ⟨h2, h3⟩
/-- a path over D, within M -/
structure Gp (D M : Nat) (p : Path) : Prop where
  pos : 0 < p.n
  len : p.n ≤ 12
  ok : ∀ i, i < p.n → OkPc (beginAt p i) (pieceAt p i)
  ss : CdP D M p.s
  sp : ∀ i, i < p.n → CdPc D M (pieceAt p i)
theorem Gp.Ok {D M : Nat} {p : Path} (h : Gp D M p) (d0 : 0 < D) (hd : D < 2 ^ 100) (hm : M < 2 ^ 100) : Ok p :=
  ⟨h.pos, Nat.le_trans h.len (by decide), h.ok, h.ss.sz d0 hd hm, fun i hi => (h.sp i hi).sz d0 hd hm⟩
theorem Bd.gp {D M : Nat} {s b : Pt} {ps : List Pc} (h : Bd D s ps b M) (h0 : 0 < ps.length) (h12 : ps.length ≤ 12) : Gp D M ⟨s, ps⟩ :=
  ⟨h0, h12, fun i hi => (h.all.2.2.2 i hi).1, h.all.1, fun i hi => (h.all.2.2.2 i hi).2⟩
end SC

set_option maxHeartbeats 4000000
/-! an arc drawn -/
namespace SC
open PySem PySem.Spec PyProof.Rows L2 RZ
section
variable {X : Cx} {N : List Str} {sc : Scope} {k : Nat} {ρ : Rho} {a b : Expr} {pos p p2 : Pos} {j m1 m2 : Nat} {P1 P2 : PyData → Prop}
theorem be_unit {h : Int} {y : Str} {p3 : Pos} (c : Ctx X N sc k) (g : KnX X "_law_unit" ["_law_box_here", "_law_h"] (spBx X.K 2 PR_unit PO_unit) 2) (hh : H4 h) (hp : PD X (.Name y p3) ρ (.int h))
    (hj : 2 ≤ k := by decide) (hN : N[0]? = some ("_law_box_here" : Str) := by rfl) (hv : Vis sc "_law_box_here" := by first | exact Or.inl rfl | exact Or.inr (Or.inl rfl) | exact Or.inr (Or.inr rfl)) (hg : sc.names.lookup ("_law_unit" : Str) = some .globalImplicit := by rfl) :
    BE X (.Call (.Name "_law_unit" p) [.Name "_law_box_here" p2, .Name y p3] [] pos) ρ 0 2 (fun d => ∃ u, d = pt u ∧ Un u) :=
  be_weak (be_draw c g (bea_cons (be_pd hp) bea_nil) (fun ds ⟨d, r, e1, e2, e3⟩ => ⟨h, by rw [e1, e2, e3], hh⟩) hj hN hv (by decide) (by decide) hg) (Nat.le_refl _) fun d ⟨ds, _, u, h1, h2⟩ => ⟨u, h1, h2⟩
/-- i + e, e drawn -/
theorem be_addl {i : Int} {z M : Nat} {p3 : Pos} (i0 : Nat) (hb : BE X b ρ j m2 (fun d => ∃ r : Nat, d = .int (r : Int) ∧ r < M)) (hi : i = (i0 : Int) := by rfl) : BE X (.BinOp (.Constant (.int i) z p3) .Add b pos) ρ j (0 + m2) (fun d => ∃ r : Nat, d = .int (r : Int) ∧ i0 ≤ r ∧ r < i0 + M) :=
  be_op op_add (be_pd pd_int) hb fun d1 d2 h1 ⟨r, h2, h3⟩ => by
    subst h1 h2 hi
    exact ⟨.int ((i0 : Int) + r), ⟨i0 + r, by rw [Int.natCast_add], by omega, by omega⟩, rfl, rd_I0 fun _ => .int _⟩
theorem be_eqi {i : Int} {z M : Nat} {p3 : Pos} (c : Ctx X N sc k) (ha : BE X a ρ j m1 (fun d => ∃ r : Nat, d = .int (r : Int) ∧ r < M)) : BE X (.Compare a [.Eq] [.Constant (.int i) z p3] pos) ρ j (m1 + 0) (fun d => ∃ t, d = .bool t) :=
  be_cmp (op_eqD c.room.units) ha (be_pd pd_int) fun d1 d2 ⟨r, h1, h3⟩ h2 => by
    subst h1 h2
    exact ⟨_, ⟨_, rfl⟩, rfl, rd_eq rfl rfl⟩
end
theorem di_lt {n : Int} {d : Nat} {M : Nat} (hd : 0 < d) (hd2 : d ≤ 2) (hn : n.natAbs ≤ M) : Cd 2 (2 * M) (Rat.divInt n (d : Int)) := by
  refine (Cd.di hd).dvd (2 / d) ?_ ?_
  · match d, hd, hd2 with
    | 1, _, _ => rfl
    | 2, _, _ => rfl
  · match d, hd, hd2 with
    | 1, _, _ => omega
    | 2, _, _ => omega
theorem di_pos {n d : Nat} (hn : 0 < n) (hd : 0 < d) : 0 < Rat.divInt (n : Int) (d : Int) := by
  rw [Rat.divInt_eq_div, Rat.intCast_natCast, Rat.intCast_natCast]
  have h1 : (0 : Rat) < (n : Rat) := by exact_mod_cast hn
  have h2 : (0 : Rat) < (d : Rat) := by exact_mod_cast hd
  rw [Rat.div_def]
  exact Rat.mul_pos h1 (Rat.inv_pos.mpr h2)
def PR_arc (ds : List PyData) : Prop := ∃ h b hd t M, ds = [.int h, pt b, pt hd, .bool t] ∧ H4 h ∧ Un hd ∧ CdP 11050 M b ∧ M ≤ 10000000
def PO_arc (ds : List PyData) (d : PyData) : Prop := ∃ h b hd t m q l v, ds = [.int h, pt b, pt hd, .bool t] ∧ d = .tuple [pt m, pt q, .str (turnS l), pt v] ∧ OkPc b (.arc m q l) ∧ Un v ∧ ∀ M, CdP 11050 M b → CdPc 11050 (M + 198900) (.arc m q l)
section
variable {P : Program} {w : World} {K : PySem.W.Frag} {mg : Str → Option Value} {base : Heap}
theorem kn_arc (A : At K mg "_law_arc" s61) (f : Fr mg) (g1 : Kn P w K mg base "_law_take" ["_law_box_here", "_law_many"] (spBx K 1 PR_take PO_take) 1) (g2 : Kn P w K mg base "_law_fr" ["_law_top", "_law_bottom"] (spP K PL_fr) 1)
    (g3 : Kn P w K mg base "_law_unit" ["_law_box_here", "_law_h"] (spBx K 2 PR_unit PO_unit) 2) (g4 : Kn P w K mg base "_law_left" ["_law_vector"] (spP K PL_left) 2) (g5 : Kn P w K mg base "_law_on" ["_law_point", "_law_vector", "_law_by"] (spP K PL_on) 3) :
    Kn P w K mg base "_law_arc" ["_law_box_here", "_law_h", "_law_begin", "_law_heading", "_law_tangent"] (spBx K 7 PR_arc PO_arc) 4 := by
  refine def_bx A sc61 (by rintro _ ⟨h, b, hd, t, M, rfl, _⟩; rfl) (fun _ _ _ _ _ _ us hl => match us, hl with | [_, _, _, _, _], _ => rfl) ?_ (by decide)
  rintro X rfl rfl rfl rfl rfl c he _ ⟨h, b, hd, t, M, rfl, hh, uhd, hb, hM⟩ _
  have cc := c.toCtx
  have hbs : SzP 4000 b := hb.sz (by decide) (by decide) (Nat.lt_of_le_of_lt hM (by decide))
  -- the end: a unit out is there
  have main : ∀ (l : Bool) (r : Rat) (u : Pt), 0 < r → Cd 2 18 r → Un u → BS X ((defBody s61).drop 3) [none, some (.int h), some (pt b), some (pt hd), some (.bool t), some (.str (turnS l)), some (fr r), some (pt u), none, none] 0 none 2 (fun _ _ => False) (PO_arc [.int h, pt b, pt hd, .bool t]) := by
    intro l r u hr0 hr hu
    have hrs : Sz 2000 r := hr.sz (by decide) (by decide) (by decide)
    have hm := un_on hu (Cd.neg hr) hb
    have hms : SzP 4000 (onP b u (-r)) := hm.sz (by decide) (by decide) (Nat.lt_of_le_of_lt (Nat.add_le_add_right hM _) (by decide))
    refine bs_set c 8 (m1 := 0) (m2 := 2) (be_pd (pd_call cc g5 (pda_cons (pd_var cc 2) (pda_cons (pd_var cc 7) (pda_cons (pd_call cc g2 (pda_cons (pd_neg (pd_ixT (pd_var cc 6) pd_int)) (pda_cons (pd_ixT (pd_var cc 6) pd_int) pda_nil)) ⟨_, _, rfl, den_p r, lt_pow hrs.dn (by decide), rfl⟩) pda_nil)))
      ⟨_, _, Rat.divInt (-r.num) r.den, rfl, hbs, hu.sz (by decide), by rw [neg_di]; exact hrs.neg, rfl⟩)) ?_ apart_none
    rintro _ rfl
    rw [neg_di]
    refine bs_set c 9 (m1 := 2) (m2 := 0) (be_unit cc g3 hh (pd_var cc 1)) ?_ apart_none
    rintro _ ⟨v, rfl, hv⟩
    have fin : ∀ z : Pt, Un z → z ≠ u → BS X ((defBody s61).drop 6) [none, some (.int h), some (pt b), some (pt hd), some (.bool t), some (.str (turnS l)), some (fr r), some (pt u), some (pt (onP b u (-r))), some (pt z)] 0 none 0 (fun _ _ => False) (PO_arc [.int h, pt b, pt hd, .bool t]) := by
      intro z hz hne
      refine bs_pure (psd_ret (pd_tup (pda_cons (pd_var cc 8) (pda_cons (pd_call cc g5 (pda_cons (pd_var cc 8) (pda_cons (pd_var cc 9) (pda_cons (pd_var cc 6) pda_nil))) ⟨_, _, _, rfl, hms, hz.sz (by decide), hrs, rfl⟩) (pda_cons (pd_var cc 5) (pda_cons (pd_var cc 9) pda_nil))))) (R := fun d => d = .tuple [pt (onP b u (-r)), pt (onP (onP b u (-r)) z r), .str (turnS l), pt z]) rfl) fun d e => ⟨⟨h, b, hd, t, _, _, l, z, rfl, e, arc_ok hr0 hu hz hne l, hz, fun M' hb' => ?_⟩, by rw [e]; rfl⟩
      have q1 := un_on hu (Cd.neg hr) hb'
      exact ⟨q1.mono (by omega), (un_on hz hr q1).mono (by omega)⟩
    refine bs_weak (bs_if (m1 := 0) (m2 := 0) (pdt_eq cc (pd_var cc 9) (pd_var cc 7) eqv_pt rfl rfl) (fun ht => ?_) fun ht => bs_nil ?_) (Nat.le_refl _) (fun _ _ z => z) fun _ z => z
    · have e := of_decide_eq_true ht
      refine bs_set c 9 (m1 := 0) (m2 := 0) (be_pd (pd_call cc g4 (pda_cons (pd_call cc g4 (pda_cons (pd_var cc 7) pda_nil) ⟨_, rfl, hu.sz (by decide), rfl⟩) pda_nil) ⟨_, rfl, hu.left.sz (by decide), rfl⟩)) ?_ apart_none
      rintro _ rfl
      exact bs_nil (fin _ hu.neg hu.ne)
    · exact fin v hv (of_decide_eq_false ht)
  refine bs_weak (bs_par c 5 6 (m1 := 1) (m2 := 2) (m3 := 4) (P1 := fun d => ∃ l, d = .str (turnS l)) (P2 := fun d => ∃ r, d = fr r ∧ 0 < r ∧ Cd 2 18 r) ?_ ?_ ?_ (by obtain ⟨q, n, f, cd, he⟩ := he; rw [he]; rfl) apart_none apart_none) (Nat.le_refl _) (fun _ _ z => z) fun _ z => z
  · refine be_weak (be_pick (bea_cons (be_pd pd_str) (bea_cons (be_pd pd_str) bea_nil)) (be_take cc 2 g1) ?_ ?_ (P := fun d => ∃ l, d = .str (turnS l))) (Nat.le_of_ble_eq_true rfl) fun _ z => z
    · rintro _ ⟨_, _, rfl, rfl, _, _, rfl, rfl, rfl⟩
      exact Nat.le_of_ble_eq_true rfl
    · rintro _ _ ⟨_, _, rfl, rfl, _, _, rfl, rfl, rfl⟩ ⟨r, rfl, hr⟩
      match r, hr with
      | 0, _ => exact ⟨_, _, rfl, rfl, true, rfl⟩
      | 1, _ => exact ⟨_, _, rfl, rfl, false, rfl⟩
  · refine be_weak (be_call cc g2 (bea_cons (be_addl 1 (be_take cc 6 g1)) (bea_cons (be_addl 1 (be_take cc 2 g1)) bea_nil)) ?_ (P := fun d => ∃ r, d = fr r ∧ 0 < r ∧ Cd 2 18 r)) (Nat.le_of_ble_eq_true rfl) fun _ z => z
    rintro _ ⟨_, _, rfl, ⟨n, rfl, hn1, hn2⟩, _, _, rfl, ⟨d, rfl, hd1, hd2⟩, rfl⟩
    exact ⟨_, ⟨_, _, rfl, by omega, Nat.lt_of_lt_of_le (show (d : Int).natAbs < 2 ^ 5 by omega) (Nat.pow_le_pow_right (by decide) (by decide)), rfl⟩, ⟨_, rfl, di_pos hn1 hd1, (di_lt (M := 6) hd1 (by omega) (by omega)).mono (by decide)⟩, rfl⟩
  rintro _ _ ⟨l, rfl⟩ ⟨r, rfl, hr0, hr⟩
  have hrs : Sz 2000 r := hr.sz (by decide) (by decide) (by decide)
  refine bs_set c 7 (m1 := 2) (m2 := 2) (be_unit cc g3 hh (pd_var cc 1)) ?_ apart_none
  rintro _ ⟨u, rfl, hu⟩
  refine bs_weak (bs_if (m1 := 0) (m2 := 2) (pdt_val (pd_var cc 4)) (fun ht => ?_) fun ht => bs_nil (main l r u hr0 hr hu)) (Nat.le_of_ble_eq_true rfl) (fun _ _ z => z) fun _ z => z
  have ul := uhd.left
  refine bs_set c 7 (m1 := 0) (m2 := 0) (be_pd (pd_call cc g4 (pda_cons (pd_var cc 3) pda_nil) ⟨_, rfl, uhd.sz (by decide), rfl⟩)) ?_ apart_none
  rintro _ rfl
  have s0 : SzP 4000 (leftP hd) := ul.sz (by decide)
  cases l with
  | true =>
    refine bs_weak (bs_if (m1 := 0) (m2 := 0) (pdt_eqT cc (pd_var cc 5) pd_str q_ll h_left h_left) (fun _ => ?_) nofun) (Nat.le_refl _) (fun _ _ z => z) fun _ z => z
    refine bs_set c 7 (m1 := 0) (m2 := 0) (be_pd (pd_tup (pda_cons (pd_call cc g2 (pda_cons (pd_neg (pd_ixT (pd_ixT (pd_var cc 7) pd_int) pd_int)) (pda_cons (pd_ixT (pd_ixT (pd_var cc 7) pd_int) pd_int) pda_nil)) ⟨_, _, rfl, den_p _, lt_pow s0.x.dn (by decide), rfl⟩)
      (pda_cons (pd_call cc g2 (pda_cons (pd_neg (pd_ixT (pd_ixT (pd_var cc 7) pd_int) pd_int)) (pda_cons (pd_ixT (pd_ixT (pd_var cc 7) pd_int) pd_int) pda_nil)) ⟨_, _, rfl, den_p _, lt_pow s0.y.dn (by decide), rfl⟩) pda_nil)))) ?_ apart_none
    rintro _ rfl
    rw [neg_di, neg_di]
    exact bs_nil (bs_nil (main true r _ hr0 hr ul.neg))
  | false =>
    refine bs_weak (bs_if (m1 := 0) (m2 := 0) (pdt_eqF cc (pd_var cc 5) pd_str q_rl h_right h_left) nofun fun _ => ?_) (Nat.le_refl _) (fun _ _ z => z) fun _ z => z
    exact bs_nil (bs_nil (main false r _ hr0 hr ul))
end
end SC

set_option maxHeartbeats 4000000
/-! a path drawn -/
namespace SC
open PySem PySem.Spec PyProof.Rows L2 RZ
theorem bs_ifM {X : Cx} {ρ : Rho} {rest body els : List Stmt} {c0 : Expr} {pos : Pos} {j m1 m2 : Nat} {o : Own} {Nx Mid : Rho → Own → Prop} {R : PyData → Prop} {t : Bool} (hc : PDT X c0 ρ t) (h1 : t = true → BS X body ρ j o m1 Mid R) (h2 : t = false → BS X els ρ j o m1 Mid R) (k : ∀ ρ' o', Mid ρ' o' → BS X rest ρ' j o' m2 Nx R) :
    BS X (.If c0 body els pos :: rest) ρ j o (m1 + m2) Nx R := bs_if hc (fun h => bs_weak (h1 h) (Nat.le_refl _) k fun _ z => z) fun h => bs_weak (h2 h) (Nat.le_refl _) k fun _ z => z
def PR_path_of (ds : List PyData) : Prop := ∃ h, ds = [.int h] ∧ H4 h
def PR_path (ds : List PyData) : Prop := ds = []
def PO_path (_ : List PyData) (d : PyData) : Prop := ∃ p, d = pathD p ∧ Gp 11050 3000000 p
theorem q_lr : PyData.eqv (.str "left") (.str "right") = false := by decide +kernel
theorem q_rr : PyData.eqv (.str "right") (.str "right") = true := by decide +kernel
theorem sn_acc {ps : List Pc} {c : Pc} : ps.map pcD ++ [pcD c] = (ps ++ [c]).map pcD := by rw [List.map_append]; rfl
section
variable {P : Program} {w : World} {K : PySem.W.Frag} {mg : Str → Option Value} {base : Heap}
theorem kn_path_of (A : At K mg "_law_path_of" s63) (f : Fr mg) (g1 : Kn P w K mg base "_law_take" ["_law_box_here", "_law_many"] (spBx K 1 PR_take PO_take) 1) (g2 : Kn P w K mg base "_law_fr" ["_law_top", "_law_bottom"] (spP K PL_fr) 1)
    (g3 : Kn P w K mg base "_law_unit" ["_law_box_here", "_law_h"] (spBx K 2 PR_unit PO_unit) 2) (g4 : Kn P w K mg base "_law_left" ["_law_vector"] (spP K PL_left) 2) (g5 : Kn P w K mg base "_law_on" ["_law_point", "_law_vector", "_law_by"] (spP K PL_on) 3)
    (g6 : Kn P w K mg base "_law_arc" ["_law_box_here", "_law_h", "_law_begin", "_law_heading", "_law_tangent"] (spBx K 7 PR_arc PO_arc) 4) :
    Kn P w K mg base "_law_path_of" ["_law_box_here", "_law_h"] (spBx K 130 PR_path_of PO_path) 5 := by
  refine def_bx A sc63 (by rintro _ ⟨h, rfl, _⟩; rfl) (fun _ _ _ _ _ _ us hl => match us, hl with | [_, _], _ => rfl) ?_ (by decide)
  rintro X rfl rfl rfl rfl rfl c he _ ⟨h, rfl, hh⟩ _
  have cc := c.toCtx
  -- great, closed
  refine bs_weak (bs_par c 2 3 (m1 := 1) (m2 := 1) (m3 := 110) (be_eqi cc (be_take cc 8 g1)) (be_take cc 2 g1) ?_ (by obtain ⟨q, n, f, cd, he⟩ := he; rw [he]; rfl) apart_none apart_none) (Nat.le_of_ble_eq_true rfl) (fun _ _ z => z) fun _ z => z
  rintro _ _ ⟨great, rfl⟩ ⟨cl, rfl, hcl⟩
  -- many, whole
  refine bs_weak (bs_par c 4 5 (m1 := 2) (m2 := 1) (m3 := 107) (P1 := fun d => ∃ r : Nat, d = .int (r : Int) ∧ 1 ≤ r ∧ r ≤ 10) ?_ (be_take cc 2 g1) ?_ (by obtain ⟨q, n, f, cd, he⟩ := he; rw [he]; rfl) apart_none apart_none) (Nat.le_of_ble_eq_true rfl) (fun _ _ z => z) fun _ z => z
  · refine be_weak (be_pick (bea_cons (be_addl 1 (be_take cc 4 g1)) (bea_cons (be_addl 7 (be_take cc 4 g1)) bea_nil)) (be_pd (pd_intB cc f.b_int (pd_var cc 2))) ?_ ?_ (P := fun d => ∃ r : Nat, d = .int (r : Int) ∧ 1 ≤ r ∧ r ≤ 10)) (Nat.le_of_ble_eq_true rfl) fun _ z => z
    · rintro _ ⟨_, _, rfl, _, _, _, rfl, _, rfl⟩
      exact Nat.le_of_ble_eq_true rfl
    · rintro _ _ ⟨_, _, rfl, ⟨r1, rfl, h1, h2⟩, _, _, rfl, ⟨r2, rfl, h3, h4⟩, rfl⟩ rfl
      cases great with
      | false => exact ⟨0, _, rfl, rfl, r1, rfl, by omega, by omega⟩
      | true => exact ⟨1, _, rfl, rfl, r2, rfl, by omega, by omega⟩
  rintro _ _ ⟨many, rfl, hm1, hm2⟩ ⟨whole, rfl, hw⟩
  have hp9 : ∀ n : Nat, n < 2 ^ 5 → ((n : Int)).natAbs < 2 ^ 9000 := fun n hn => Nat.lt_of_lt_of_le (show (n : Int).natAbs < 2 ^ 5 by omega) (Nat.pow_le_pow_right (by decide) (by decide))
  have hw9 : ((1 : Int) + (whole : Int)).natAbs < 2 ^ 9000 := by
    have := hp9 (1 + whole) (by omega)
    rwa [Int.natCast_add] at this
  have ew : ((1 : Int) + (whole : Int)) = ((1 + whole : Nat) : Int) := by rw [Int.natCast_add]; rfl
  -- start
  refine bs_weak (bs_set c 6 (m1 := 2) (m2 := 105) (P := fun d => ∃ s, d = pt s ∧ CdP 11050 221000 s) ?_ ?_ apart_none) (Nat.le_of_ble_eq_true rfl) (fun _ _ z => z) fun _ z => z
  · refine be_weak (be_tup (bea_cons (be_call cc g2 (bea_cons (be_op (P := fun d => ∃ n : Int, d = .int n ∧ n.natAbs ≤ 20) op_sub (be_take cc 41 g1) (be_pd pd_int) ?_) (bea_cons (be_pd (pd_add pd_int (pd_var cc 5))) bea_nil)) ?_ (P := fun d => ∃ x, d = fr x ∧ Cd 11050 221000 x))
      (bea_cons (be_call cc g2 (bea_cons (be_op (P := fun d => ∃ n : Int, d = .int n ∧ n.natAbs ≤ 20) op_sub (be_take cc 41 g1) (be_pd pd_int) ?_) (bea_cons (be_pd pd_int) bea_nil)) ?_ (P := fun d => ∃ x, d = fr x ∧ Cd 11050 221000 x)) bea_nil)) (Nat.le_of_ble_eq_true rfl) ?_) (Nat.le_of_ble_eq_true rfl) ?_
    · rintro _ _ ⟨r, rfl, hr⟩ rfl
      exact ⟨_, ⟨(r : Int) - 20, rfl, by omega⟩, rfl, rd_I0 fun _ => .int _⟩
    · rintro _ ⟨_, _, rfl, ⟨n, rfl, hn⟩, _, _, rfl, rfl, rfl⟩
      refine ⟨_, ⟨_, _, rfl, by omega, hw9, rfl⟩, ⟨_, rfl, ?_⟩, rfl⟩
      rw [ew]
      exact (di_lt (M := 20) (by omega) (by omega) hn).dvd 5525 (by decide) (by decide)
    · rintro _ _ ⟨r, rfl, hr⟩ rfl
      exact ⟨_, ⟨(r : Int) - 20, rfl, by omega⟩, rfl, rd_I0 fun _ => .int _⟩
    · rintro _ ⟨_, _, rfl, ⟨n, rfl, hn⟩, _, _, rfl, rfl, rfl⟩
      exact ⟨_, ⟨_, _, rfl, by decide, hp9 1 (by decide), rfl⟩, ⟨_, rfl, (di_lt (d := 1) (M := 20) (by decide) (by decide) hn).dvd 5525 (by decide) (by decide)⟩, rfl⟩
    · rintro _ ⟨_, _, rfl, _, _, _, rfl, _, rfl⟩
      exact Nat.le_of_ble_eq_true rfl
    · rintro _ ⟨_, rfl, _, _, rfl, ⟨x, rfl, hx⟩, _, _, rfl, ⟨y, rfl, hy⟩, rfl⟩
      exact ⟨(x, y), rfl, hx, hy⟩
  rintro _ ⟨s, rfl, hs⟩
  -- pieces, here, heading
  refine bs_weak (bs_par3 c 7 8 9 (m2 := 0) (m3 := 2) (m := 103) (be_pd (pd_var cc 6)) (be_unit cc g3 hh (pd_var cc 1)) ?_ (by obtain ⟨q, n, f, cd, he⟩ := he; rw [he]; rfl) rfl rfl) (Nat.le_of_ble_eq_true rfl) (fun _ _ z => z) fun _ z => z
  rintro _ _ rfl ⟨u0, rfl, hu0⟩
  refine bs_weak (bs_for c f.b_range 10 (m1 := 0) (m2 := 10) (m3 := 0) (M := 10) (fun q ρ o => ∃ ps b u x1 x2 x3 x4 x5 x6, o = some (7, ps.map pcD) ∧ ρ = [none, some (.int h), some (.bool great), some (.int cl), some (.int many), some (.int whole), some (pt s), none, some (pt b), some (pt u), x1, x2, x3, x4, x5, x6] ∧ Bd 11050 s ps b (221000 + q * 198900) ∧ ps.length = q ∧ Un u) (be_pd (pd_var cc 4)) ?_ (by decide) ⟨[], s, u0, none, none, none, none, none, none, rfl, rfl, .nil (hs.mono (by omega)), rfl, hu0⟩ ?_ ?_) (Nat.le_of_ble_eq_true rfl) (fun _ _ z => z) fun _ z => z
  · rintro _ rfl
    exact ⟨many, rfl, hm2⟩
  · rintro q _ _ hq ⟨ps, b, u, x1, x2, x3, x4, x5, x6, rfl, rfl, hbd, hlen, hu⟩
    obtain ⟨cs, cb, _, _⟩ := hbd.all
    have hM : 221000 + q * 198900 ≤ 10000000 := by omega
    have hbs : SzP 4000 b := cb.sz (by decide) (by decide) (Nat.lt_of_le_of_lt hM (by decide))
    refine ⟨apart_some, bs_weak (bs_par c 11 12 (m1 := 1) (m2 := 2) (m3 := 7) (be_take cc 8 g1) (be_unit cc g3 hh (pd_var cc 1)) ?_ (by obtain ⟨q, n, f, cd, he⟩ := he; rw [he]; rfl) apart_some apart_some) (Nat.le_of_ble_eq_true rfl) (fun _ _ z => z) fun _ z => z⟩
    rintro _ _ ⟨way, rfl, hway⟩ ⟨u1, rfl, hu1⟩
    refine bs_ifM (m1 := 7) (m2 := 0) (pdt_lt (pd_var cc 11) pd_int) (fun ht => ?_) (fun ht => ?_) fun _ _ z => bs_nil z
    · -- an arc
      refine bs_weak (bs_asg (m1 := 7) (m2 := 0) (P := fun d => ∃ m t l v, d = .tuple [pt m, pt t, .str (turnS l), pt v] ∧ OkPc b (.arc m t l) ∧ Un v ∧ CdPc 11050 (221000 + q * 198900 + 198900) (.arc m t l))
        (fun d ρ => (((ρ.set 13 (some (cmpD d 0))).set 8 (some (cmpD d 1))).set 14 (some (cmpD d 2))).set 15 (some (cmpD d 3))) [13, 8, 14, 15] ?_ (pg_tup cc.calm (pgs_cons (pg_of c 13) (pgs_cons (pg_of c 8) (pgs_cons (pg_of c 14) (pgs_cons (pg_of c 15) pgs_nil))))) ?_ ?_ ?_ (by decide) (fun x z => by cases z; exact (by decide : ¬ 7 ∈ [13, 8, 14, 15]))) (Nat.le_of_ble_eq_true rfl) (fun _ _ z => z) fun _ z => z
      · refine be_weak (be_draw cc g6 (bea_cons (be_pd (pd_var cc 1)) (bea_cons (be_pd (pd_var cc 8)) (bea_cons (be_pd (pd_var cc 9)) (bea_cons (be_pd (pd_lt (pd_var cc 11) pd_int)) bea_nil)))) ?_) (Nat.le_of_ble_eq_true rfl) ?_
        · rintro _ ⟨_, _, rfl, rfl, _, _, rfl, rfl, _, _, rfl, rfl, _, _, rfl, rfl, rfl⟩
          exact ⟨h, b, u, _, _, rfl, hh, hu, cb, hM⟩
        · rintro d ⟨_, ⟨_, _, rfl, rfl, _, _, rfl, rfl, _, _, rfl, rfl, _, _, rfl, rfl, rfl⟩, h', b', u', t', m, t, l, v, e, hd, ho, hv, hc⟩
          injection e with _ e
          injection e with e _
          have eb := pt_inj e
          subst eb
          exact ⟨m, t, l, v, hd, ho, hv, hc _ cb⟩
      · rintro _ ⟨m, t, l, v, rfl, _⟩
        exact gd_tup4 (by decide) (by decide) (by decide) (by decide)
      · rintro _ ⟨m, t, l, v, rfl, _⟩ _ T
        exact (((T.set rfl 13).set rfl 8).set (by cases l <;> rfl) 14).set rfl 15
      · rintro _ ⟨m, t, l, v, rfl, ho, hv, hc⟩
        refine bs_app c (d := pcD (.arc m t l)) (pd_tup (pda_cons pd_str (pda_cons (pd_var cc 13) (pda_cons (pd_var cc 8) (pda_cons (pd_var cc 14) pda_nil))))) rfl (by rw [List.length_map]; omega) ?_
        rw [sn_acc]
        have hbd' : Bd 11050 s (ps ++ [.arc m t l]) t (221000 + (q + 1) * 198900) := .snoc (c := .arc m t l) hbd ho (hc.mono (by omega)) (by omega)
        have hl' : (ps ++ [Pc.arc m t l]).length = q + 1 := by rw [List.length_append, hlen]; rfl
        refine bs_set c 9 (m1 := 0) (m2 := 0) (be_pd (pd_call cc g4 (pda_cons (pd_var cc 15) pda_nil) ⟨_, rfl, hv.sz (by decide), rfl⟩)) ?_ apart_some
        rintro _ rfl
        cases l with
        | true =>
          refine bs_ifM (m1 := 0) (m2 := 0) (pdt_eqF cc (pd_var cc 14) pd_str q_lr h_left h_right) nofun (fun _ => bs_nil ?_) fun _ _ z => bs_nil z
          exact ⟨_, t, _, _, _, _, _, _, _, rfl, rfl, hbd', hl', hv.left⟩
        | false =>
          refine bs_ifM (m1 := 0) (m2 := 0) (pdt_eqT cc (pd_var cc 14) pd_str q_rr h_right h_right) (fun _ => ?_) nofun fun _ _ z => bs_nil z
          refine bs_set c 9 (m1 := 0) (m2 := 0) (be_pd (pd_call cc g4 (pda_cons (pd_call cc g4 (pda_cons (pd_var cc 9) pda_nil) ⟨_, rfl, hv.left.sz (by decide), rfl⟩) pda_nil) ⟨_, rfl, hv.left.left.sz (by decide), rfl⟩)) ?_ apart_some
          rintro _ rfl
          exact bs_nil ⟨_, t, _, _, _, _, _, _, _, rfl, rfl, hbd', hl', hv.left.left.left⟩
    · -- a side
      refine bs_weak (bs_ifM (m1 := 0) (m2 := 1) (Mid := fun ρ' o' => o' = some (7, ps.map pcD) ∧ ∃ z, Un z ∧ ρ' = [none, some (.int h), some (.bool great), some (.int cl), some (.int many), some (.int whole), some (pt s), none, some (pt b), some (pt u), some (.int q), some (.int way), some (pt z), x4, x5, x6]) (pdt_eq cc (pd_var cc 11) pd_int rfl rfl rfl) (fun _ => ?_) (fun _ => ?_) ?_) (Nat.le_of_ble_eq_true rfl) (fun _ _ z => z) fun _ z => z
      · refine bs_set c 12 (m1 := 0) (m2 := 0) (be_pd (pd_var cc 9)) ?_ apart_some
        rintro _ rfl
        exact bs_nil ⟨rfl, u, hu, rfl⟩
      · refine bs_ifM (m1 := 0) (m2 := 0) (pdt_eq cc (pd_var cc 11) pd_int rfl rfl rfl) (fun _ => ?_) (fun _ => bs_nil ⟨rfl, u1, hu1, rfl⟩) fun _ _ z => bs_nil z
        refine bs_set c 12 (m1 := 0) (m2 := 0) (be_pd (pd_call cc g4 (pda_cons (pd_call cc g4 (pda_cons (pd_var cc 9) pda_nil) ⟨_, rfl, hu.sz (by decide), rfl⟩) pda_nil) ⟨_, rfl, hu.left.sz (by decide), rfl⟩)) ?_ apart_some
        rintro _ rfl
        exact bs_nil ⟨rfl, _, hu.left.left, rfl⟩
      · rintro _ _ ⟨rfl, z, hz, rfl⟩
        refine bs_weak (bs_set c 8 (m1 := 1) (m2 := 0) (P := fun d => ∃ r, d = pt (onP b z r) ∧ 0 < r ∧ Cd 2 18 r) ?_ ?_ apart_some) (Nat.le_of_ble_eq_true rfl) (fun _ _ z => z) fun _ z => z
        · refine be_weak (be_call cc g5 (bea_cons (be_pd (pd_var cc 8)) (bea_cons (be_pd (pd_var cc 12)) (bea_cons (be_call cc g2 (bea_cons (be_addl 1 (be_take cc 9 g1)) (bea_cons (be_pd (pd_add pd_int (pd_var cc 5))) bea_nil)) ?_ (P := fun d => ∃ r, d = fr r ∧ 0 < r ∧ Cd 2 18 r)) bea_nil))) ?_ (P := fun d => ∃ r, d = pt (onP b z r) ∧ 0 < r ∧ Cd 2 18 r)) (Nat.le_of_ble_eq_true rfl) fun _ z => z
          · rintro _ ⟨_, _, rfl, ⟨n, rfl, hn1, hn2⟩, _, _, rfl, rfl, rfl⟩
            refine ⟨_, ⟨_, _, rfl, by omega, hw9, rfl⟩, ⟨_, rfl, ?_, ?_⟩, rfl⟩
            · rw [ew]
              exact di_pos hn1 (by omega)
            · rw [ew]
              exact di_lt (M := 9) (by omega) (by omega) (by omega)
          · rintro _ ⟨_, _, rfl, rfl, _, _, rfl, rfl, _, _, rfl, ⟨r, rfl, hr0, hr⟩, rfl⟩
            exact ⟨_, ⟨_, _, _, rfl, hbs, hz.sz (by decide), hr.sz (by decide) (by decide) (by decide), rfl⟩, ⟨r, rfl, hr0, hr⟩, rfl⟩
        · rintro _ ⟨r, rfl, hr0, hr⟩
          have hc := un_on hz hr cb
          refine bs_app c (d := pcD (.side (onP b z r))) (pd_tup (pda_cons pd_str (pda_cons (pd_var cc 8) pda_nil))) rfl (by rw [List.length_map]; omega) ?_
          rw [sn_acc]
          refine bs_set c 9 (m1 := 0) (m2 := 0) (be_pd (pd_var cc 12)) ?_ apart_some
          rintro _ rfl
          exact bs_nil ⟨_, _, _, _, _, _, _, _, _, rfl, rfl, .snoc (c := .side (onP b z r)) hbd (side_ok hr0 hz) (CdP.mono hc (by omega)) (by omega), by rw [List.length_append, hlen]; rfl, hz⟩
  · rintro q _ _ hq hP ⟨ps, b, u, x1, x2, x3, x4, x5, x6, rfl, rfl, hbd, hlen, hu⟩
    injection hP with hP
    have hqm : q = many := by omega
    subst hqm
    obtain ⟨cs, cb, _, _⟩ := hbd.all
    refine bs_ifM (m1 := 0) (m2 := 0) (Mid := fun ρ' o' => ∃ ps b, o' = some (7, ps.map pcD) ∧ ρ' = [none, some (.int h), some (.bool great), some (.int cl), some (.int q), some (.int whole), some (pt s), none, some (pt b), some (pt u), x1, x2, x3, x4, x5, x6] ∧ Bd 11050 s ps b (221000 + q * 198900) ∧ 0 < ps.length ∧ ps.length ≤ 11 ∧ (((cl : Int) != 0) = true → b.1 = s.1))
      (pdt_w (pdw_and (pdt_int (pd_var cc 3)) (fun _ => pdw_and1 (pdt_ne cc (pd_ixT (pd_var cc 8) pd_int) (pd_ixT (pd_var cc 6) pd_int) eqv_fr rfl rfl)))) (fun ht => ?_) (fun ht => bs_nil ?_) ?_
    · obtain ⟨ht1, ht2⟩ := Bool.and_eq_true_iff.mp ht
      have hne : b.1 ≠ s.1 := by
        intro z
        rw [decide_eq_true z] at ht2
        cases ht2
      refine bs_set c 8 (m1 := 0) (m2 := 0) (be_pd (pd_tup (pda_cons (pd_ixT (pd_var cc 6) pd_int) (pda_cons (pd_ixT (pd_var cc 8) pd_int) pda_nil)))) ?_ apart_some
      rintro _ rfl
      refine bs_app c (d := pcD (.side (s.1, b.2))) (pd_tup (pda_cons pd_str (pda_cons (pd_var cc 8) pda_nil))) rfl (by rw [List.length_map]; omega) ?_
      rw [sn_acc]
      exact bs_nil ⟨_, (s.1, b.2), rfl, rfl, .snoc (c := .side (s.1, b.2)) hbd (close_x hne) ⟨cs.x, cb.y⟩ (Nat.le_refl _), by rw [List.length_append]; exact Nat.succ_pos _, by rw [List.length_append, hlen]; show q + 1 ≤ 11; omega, fun _ => rfl⟩
    · refine ⟨ps, b, rfl, rfl, hbd, by omega, by omega, fun hc => ?_⟩
      rw [hc, Bool.true_and] at ht
      exact Classical.not_not.mp fun z => by
        rw [decide_eq_false z] at ht
        cases ht
    · rintro _ _ ⟨ps, b, rfl, rfl, hbd, h0, h11, hcl⟩
      obtain ⟨cs, cb, _, _⟩ := hbd.all
      refine bs_ifM (m1 := 0) (m2 := 0) (Mid := fun ρ' o' => ∃ ps b b', o' = some (7, ps.map pcD) ∧ ρ' = [none, some (.int h), some (.bool great), some (.int cl), some (.int q), some (.int whole), some (pt s), none, some (pt b'), some (pt u), x1, x2, x3, x4, x5, x6] ∧ Bd 11050 s ps b (221000 + q * 198900) ∧ 0 < ps.length ∧ ps.length ≤ 12)
        (pdt_w (pdw_and (pdt_int (pd_var cc 3)) (fun _ => pdw_and1 (pdt_ne cc (pd_ixT (pd_var cc 8) pd_int) (pd_ixT (pd_var cc 6) pd_int) eqv_fr rfl rfl)))) (fun ht => ?_) (fun ht => bs_nil ⟨ps, b, b, rfl, rfl, hbd, h0, by omega⟩) ?_
      · obtain ⟨ht1, ht2⟩ := Bool.and_eq_true_iff.mp ht
        have hne : b.2 ≠ s.2 := by
          intro z
          rw [decide_eq_true z] at ht2
          cases ht2
        refine bs_app c (d := pcD (.side s)) (pd_tup (pda_cons pd_str (pda_cons (pd_var cc 6) pda_nil))) rfl (by rw [List.length_map]; omega) ?_
        rw [sn_acc]
        exact bs_nil ⟨_, s, b, rfl, rfl, .snoc (c := .side s) hbd (close_y (hcl ht1) hne) cs (Nat.le_refl _), by rw [List.length_append]; exact Nat.succ_pos _, by rw [List.length_append]; show ps.length + 1 ≤ 12; omega⟩
      · rintro _ _ ⟨ps, b, b', rfl, rfl, hbd, h0, h12⟩
        refine bs_retO (pd_tup (pda_cons (pd_var cc 6) (pda_cons (pd_tupL cc f.b_tuple (pd_var cc 7)) pda_nil))) (tupd_path ⟨s, ps⟩) ⟨⟨s, ps⟩, rfl, ?_⟩
        have g := hbd.gp h0 h12
        exact ⟨g.pos, g.len, g.ok, g.ss.mono (by omega), fun i hi => (g.sp i hi).mono (by omega)⟩
theorem kn_path (A : At K mg "_law_path" s62) (g1 : Kn P w K mg base "_law_take" ["_law_box_here", "_law_many"] (spBx K 1 PR_take PO_take) 1) (g2 : Kn P w K mg base "_law_path_of" ["_law_box_here", "_law_h"] (spBx K 130 PR_path_of PO_path) 5) :
    Kn P w K mg base "_law_path" ["_law_box_here"] (spBx K 131 PR_path PO_path) 6 := by
  refine def_bx A sc62 (by rintro _ rfl; rfl) (fun _ _ _ _ _ _ us hl => match us, hl with | [_], _ => rfl) ?_ (by decide)
  rintro X rfl rfl rfl rfl rfl c he _ rfl _
  have cc := c.toCtx
  refine bs_ret (be_weak (be_draw cc g2 (bea_cons (be_pick (bea_cons (be_pd pd_int) (bea_cons (be_pd pd_int) (bea_cons (be_pd pd_int) (bea_cons (be_pd pd_int) bea_nil)))) (be_take cc 4 g1) ?_ ?_ (P := fun d => ∃ h, d = .int h ∧ H4 h)) bea_nil) ?_) (Nat.le_of_ble_eq_true rfl) ?_) fun _ z => z
  · rintro _ ⟨_, _, rfl, rfl, _, _, rfl, rfl, _, _, rfl, rfl, _, _, rfl, rfl, rfl⟩
    exact Nat.le_of_ble_eq_true rfl
  · rintro _ _ ⟨_, _, rfl, rfl, _, _, rfl, rfl, _, _, rfl, rfl, _, _, rfl, rfl, rfl⟩ ⟨r, rfl, hr⟩
    match r, hr with
    | 0, _ => exact ⟨_, _, rfl, rfl, 5, rfl, .inl rfl⟩
    | 1, _ => exact ⟨_, _, rfl, rfl, 13, rfl, .inr (.inl rfl)⟩
    | 2, _ => exact ⟨_, _, rfl, rfl, 17, rfl, .inr (.inr (.inl rfl))⟩
    | 3, _ => exact ⟨_, _, rfl, rfl, 25, rfl, .inr (.inr (.inr rfl))⟩
  · rintro _ ⟨_, _, rfl, ⟨h, rfl, hh⟩, rfl⟩
    exact ⟨h, rfl, hh⟩
  · rintro d ⟨_, _, p, e, g⟩
    exact ⟨p, e, g⟩
end
end SC

set_option maxHeartbeats 4000000
/-! a path in two parts -/
namespace SC
open PySem PySem.Spec PyProof.Rows L2 RZ
def fstP (p : Path) (j : Nat) : Path := ⟨p.s, p.ps.take j⟩
def sndP (p : Path) (j : Nat) : Path := ⟨beginAt p j, p.ps.drop j⟩
section
variable {p : Path} {j i : Nat}
theorem fst_n (h : j ≤ p.n) : (fstP p j).n = j := by
  unfold fstP Path.n at *
  rw [List.length_take]
  omega
theorem snd_n : (sndP p j).n = p.n - j := by
  unfold sndP Path.n
  rw [List.length_drop]
theorem fst_piece (h : i < j) : pieceAt (fstP p j) i = pieceAt p i := by
  unfold pieceAt fstP
  simp only [List.getD_eq_getElem?_getD]
  rw [List.getElem?_take_of_lt h]
theorem fst_begin (h : i ≤ j) : beginAt (fstP p j) i = beginAt p i := by
  unfold beginAt
  by_cases h0 : i = 0
  · rw [if_pos h0, if_pos h0]
    rfl
  · rw [if_neg h0, if_neg h0, fst_piece (by omega)]
theorem snd_piece : pieceAt (sndP p j) i = pieceAt p (j + i) := by
  unfold pieceAt sndP
  simp only [List.getD_eq_getElem?_getD]
  rw [List.getElem?_drop]
theorem snd_begin : beginAt (sndP p j) i = beginAt p (j + i) := by
  unfold beginAt
  by_cases h0 : i = 0
  · subst h0
    rw [if_pos rfl]
    rfl
  · rw [if_neg h0, if_neg (by omega), snd_piece]
    congr 2
    omega
theorem fst_ok (h : Ok p) (h0 : 0 < j) (hj : j ≤ p.n) : Ok (fstP p j) := by
  have hn := fst_n hj
  have hl := h.len
  exact ⟨by omega, by omega, fun i hi => by rw [fst_begin (by omega), fst_piece (by omega)]; exact h.ok i (by omega), h.ss, fun i hi => by rw [fst_piece (by omega)]; exact h.sp i (by omega)⟩
theorem snd_ok (h : Ok p) (hj : j < p.n) : Ok (sndP p j) := by
  have hn := snd_n (p := p) (j := j)
  have hl := h.len
  exact ⟨by omega, by omega, fun i hi => by rw [snd_begin, snd_piece]; exact h.ok _ (by omega), h.sb (by omega), fun i hi => by rw [snd_piece]; exact h.sp _ (by omega)⟩
theorem fst_cw (h0 : 0 < i) (hi : i < j) : cw (fstP p j) i = cw p i := by
  unfold cw
  rw [if_neg (by omega), fst_begin (by omega), fst_piece (by omega), fst_begin (by omega), fst_piece hi, if_neg (by omega)]
theorem snd_cw (h0 : 0 < i) : cw (sndP p j) i = cw p (j + i) := by
  unfold cw
  rw [if_neg (by omega), snd_begin, snd_piece, snd_begin, snd_piece, if_neg (by omega), show j + i - 1 = j + (i - 1) by omega]
def keepD : PyData → Bool
  | .tuple (.int i :: _) => decide (0 < i)
  | _ => false
def shD (j : Nat) : PyData → PyData
  | .tuple [.int i, x] => .tuple [.int (i + (j : Int)), x]
  | d => d
noncomputable def posC (p : Path) (n : Nat) : List PyData := ((List.range n).filter fun i => decide (0 < i)).map fun i => cD i (cw p i)
theorem keep_eq (p : Path) : (cornersL p).filter keepD = posC p p.n := by
  unfold cornersL cornersTo posC
  rw [List.filter_map, List.filter_filter]
  congr 1
  refine List.filter_congr fun i _ => ?_
  have e : (keepD ∘ fun j => cD j (cw p j)) i = decide (0 < i) := by
    show decide ((0 : Int) < (i : Int)) = _
    exact decide_eq_decide.mpr (by omega)
  rw [e]
  cases h : decide (0 < i) <;> simp
theorem posC_succ (p : Path) (n : Nat) : posC p (n + 1) = if 0 < n then posC p n ++ [cD n (cw p n)] else posC p n := by
  unfold posC
  rw [List.range_succ, List.filter_append, List.map_append]
  by_cases h : 0 < n
  · rw [if_pos h, List.filter_cons_of_pos (by simpa using h)]
    rfl
  · rw [if_neg h, List.filter_cons_of_neg (by simpa using h)]
    simp
theorem posC_fst (hj : j ≤ p.n) : ∀ n, n ≤ j → posC (fstP p j) n = posC p n
  | 0, _ => rfl
  | n + 1, h => by
    rw [posC_succ, posC_succ, posC_fst hj n (by omega)]
    split
    · rw [fst_cw (by omega) (by omega)]
    · rfl
theorem posC_snd (h0 : 0 < j) : ∀ m, 0 < m → posC p j ++ [cD j (cw p j)] ++ (posC (sndP p j) m).map (shD j) = posC p (j + m)
  | 0, h => absurd h (Nat.lt_irrefl 0)
  | m + 1, _ => by
    rw [posC_succ]
    by_cases hm : 0 < m
    · rw [if_pos hm, List.map_append, ← List.append_assoc, posC_snd h0 m hm, ← Nat.add_assoc, posC_succ, if_pos (by omega), snd_cw hm]
      congr 2
      show [PyData.tuple [.int ((m : Int) + (j : Int)), .str (cw p (j + m))]] = [PyData.tuple [.int ((j + m : Nat) : Int), .str (cw p (j + m))]]
      rw [Int.natCast_add, Int.add_comm]
    · have e : m = 0 := by omega
      subst e
      rw [if_neg hm]
      show posC p j ++ [cD j (cw p j)] ++ [] = _
      rw [List.append_nil, posC_succ, if_pos h0]
theorem cut_take {α : Type} (xs : List α) (h : j ≤ xs.length) : cutD xs none (some (j : Int)) = xs.take j := by
  unfold cutD
  rw [HT.sIx_none, List.drop_zero]
  congr 1
  show (if (j : Int) < 0 then ((j : Int) + (xs.length : Int)).toNat else min (j : Int).toNat xs.length) - 0 = j
  rw [if_neg (by omega)]
  omega
theorem cut_drop {α : Type} (xs : List α) (h : j ≤ xs.length) : cutD xs (some (j : Int)) none = xs.drop j := by
  unfold cutD
  have e : HT.sIx xs.length 0 (some (j : Int)) = j := by
    show (if (j : Int) < 0 then ((j : Int) + (xs.length : Int)).toNat else min (j : Int).toNat xs.length) = j
    rw [if_neg (by omega)]
    omega
  rw [e, HT.sIx_none]
  exact List.take_of_length_le (by rw [List.length_drop]; omega)
theorem word_law (u v : Pt) : word u v = (if crossP u v = 0 then (if u = v then "straight" else "back") else if crossP u v < 0 then "right" else "left" : Str) := by
  unfold word
  by_cases e : u = v
  · subst e
    have z : crossP u u = 0 := by unfold crossP; grind
    rw [if_pos rfl, if_pos z, if_pos rfl]
  · rw [if_neg e]
    by_cases h1 : 0 < crossP u v
    · rw [if_pos h1, if_neg (by grind), if_neg (by grind)]
    · rw [if_neg h1]
      by_cases h2 : crossP u v < 0
      · rw [if_pos h2, if_neg (by grind), if_pos h2]
      · rw [if_neg h2, if_pos (by grind), if_neg e]
end
theorem pl_pos (p : Path) (n : Nat) : plA (posC p n) = true := plA_all.mpr fun d hd => by
  obtain ⟨i, _, rfl⟩ := List.mem_map.mp hd
  rfl
theorem str_can {x : Str} (h : Wd x) : PyData.canLay0 (.str x) = true := by
  unfold Wd at h
  rcases h with rfl | rfl | rfl | rfl <;> decide +kernel
end SC

set_option maxHeartbeats 4000000
/-! a path in two parts: the law's look -/
namespace SC
open PySem PySem.Spec PyProof.Rows L2 RZ
theorem sh_pos (p : Path) (n : Nat) : Sh 2 (.list (posC p n)) := Sh.list fun d hd => by
  obtain ⟨i, _, rfl⟩ := List.mem_map.mp hd
  refine Sh.tuple fun d hd => ?_
  rcases List.mem_cons.mp hd with rfl | hd
  · exact Sh.int
  · rcases List.mem_cons.mp hd with rfl | hd
    · exact sh_wd (word_wd _ _)
    · cases hd
theorem cL_mem {p : Path} {d : PyData} (h : d ∈ cornersL p) : ∃ i, i < p.n ∧ d = cD i (cw p i) := by
  obtain ⟨i, hi, rfl⟩ := List.mem_map.mp h
  exact ⟨i, List.mem_range.mp (List.mem_filter.mp hi).1, rfl⟩
theorem fr_num {q : Rat} : q.num < 0 ↔ q < 0 := by
  have h := Rat.lt_iff q 0
  have e1 : (0 : Rat).den = 1 := rfl
  have e2 : (0 : Rat).num = 0 := rfl
  rw [e1, e2] at h
  rw [h]
  simp
theorem fr_num0 {q : Rat} : q.num = 0 ↔ q = 0 := Rat.num_eq_zero
def PR_parts (ds : List PyData) : Prop := ∃ p, ds = [pathD p] ∧ Ok p
def PO_parts (_ : List PyData) (d : PyData) : Prop := d = .bool true
section
variable {P : Program} {w : World} {K : PySem.W.Frag} {mg : Str → Option Value} {base : Heap}
theorem kn_parts (A : At K mg "_law_parts_right" s72) (f : Fr mg) (g1 : Kn P w K mg base "_law_take" ["_law_box_here", "_law_many"] (spBx K 1 PR_take PO_take) 1) (g2 : Kn P w K mg base "ends_of" ["path"] (spP K PR_ends_of) 2) (g3 : Kn P w K mg base "is_path" ["thing"] (spP K PR_is_path) 8)
    (g4 : Kn P w K mg base "corners" ["path"] (spP K PR_corners) 9) (g5 : Kn P w K mg base "headings" ["path", "number"] (spP K PR_headings) 8) (g6 : Kn P w K mg base "_law_cross" ["_law_one", "_law_other"] (spP K PL_cross) 3) :
    Kn P w K mg base "_law_parts_right" ["_law_box_here", "_law_path_here"] (spBx K 1 PR_parts PO_parts) 10 := by
  refine def_bx A sc72 (by rintro _ ⟨p, rfl, _⟩; rfl) (fun _ _ _ _ _ _ us hl => match us, hl with | [_, _], _ => rfl) ?_ (by decide)
  rintro X rfl rfl rfl rfl rfl c he _ ⟨p, rfl, hp⟩ _
  have cc := c.toCtx
  have h0 := hp.pos
  have hl := hp.len
  refine bs_weak (bs_asg (m1 := 1) (m2 := 0) (P := fun d => ∃ j : Nat, d = .tuple [.int (j : Int), .int (p.n : Int)] ∧ 1 ≤ j ∧ j ≤ p.n) (fun d ρ => (ρ.set 2 (some (cmpD d 0))).set 3 (some (cmpD d 1))) [2, 3] ?_ (pg_tup cc.calm (pgs_cons (pg_of c 2) (pgs_cons (pg_of c 3) pgs_nil))) ?_ ?_ ?_ (by decide) nofun (hw := ?hsw)) (Nat.le_of_ble_eq_true rfl) (fun _ _ z => z) fun _ z => z
  case hsw =>
    obtain ⟨q, n, f, cd, he⟩ := he
    rw [he]
    rfl
  · refine be_weak (be_tup (bea_cons (be_op (P := fun d => ∃ j : Nat, d = .int (j : Int) ∧ 1 ≤ j ∧ j ≤ p.n) op_add (be_pd pd_int) (be_draw cc g1 (bea_cons (be_pd (PD.eq (pd_lenT cc f.b_len (pd_ixT (pd_var cc 1) pd_int)) (by rw [lenD]))) bea_nil) ?_) ?_) (bea_cons (be_pd (PD.eq (pd_lenT cc f.b_len (pd_ixT (pd_var cc 1) pd_int)) (by rw [lenD]))) bea_nil)) (Nat.le_of_ble_eq_true rfl) ?_) (Nat.le_of_ble_eq_true rfl) ?_
    · rintro _ ⟨_, _, rfl, rfl, rfl⟩
      exact ⟨p.n, rfl, h0, by omega⟩
    · rintro _ _ rfl ⟨_, ⟨_, _, rfl, rfl, rfl⟩, m, r, hm, rfl, hr⟩
      injection hm with hm _
      injection hm with hm
      refine ⟨_, ⟨1 + r, rfl, by omega, by omega⟩, rfl, ?_⟩
      rw [Int.natCast_add]
      exact rd_I0 fun _ => .int _
    · rintro _ ⟨_, _, rfl, _, _, _, rfl, _, rfl⟩
      exact Nat.le_of_ble_eq_true rfl
    · rintro _ ⟨_, rfl, _, _, rfl, ⟨j, rfl, h1, h2⟩, _, _, rfl, rfl, rfl⟩
      exact ⟨j, rfl, h1, h2⟩
  · rintro _ ⟨j, rfl, _⟩
    exact gd_tup2 (by decide) (by decide)
  · rintro _ ⟨j, rfl, _⟩ _ T
    exact (T.set rfl 2).set rfl 3
  rintro _ ⟨j, rfl, hj1, hj2⟩
  refine bs_pure (R' := fun d => d = .bool true) ?_ fun d z => ⟨z, by rw [z]; rfl⟩
  by_cases hjn : j = p.n
  · exact psd_ifT (PDT.eq (pdt_eq cc (pd_var cc 2) (pd_var cc 3) eqi rfl rfl) (decide_eq_true (by omega))) (psd_ret pd_bl rfl)
  refine psd_skip (PDT.eq (pdt_eq cc (pd_var cc 2) (pd_var cc 3) eqi rfl rfl) (decide_eq_false (by omega))) ?_
  have hj : j < p.n := by omega
  have ok1 := fst_ok hp hj1 (Nat.le_of_lt hj)
  have ok2 := snd_ok hp hj
  have n1 := fst_n (p := p) (Nat.le_of_lt hj)
  have n2 := snd_n (p := p) (j := j)
  have lD := lenD p
  refine psd_par c 4 5 (d1 := pathD (fstP p j)) (d2 := pathD (sndP p j)) (pd_tup (pda_cons (pd_ixT (pd_var cc 1) pd_int) (pda_cons (PD.eq (pd_slT (pd_ixT (pd_var cc 1) pd_int) po_none edo_none (po_some pe_W) (edo_some (pd_var cc 2))) ?_) pda_nil)))
    (pd_tup (pda_cons (pd_ixL (pd_call cc g2 (pda_cons (pd_var cc 1) pda_nil) ⟨p, rfl, hp, rfl⟩) (pd_var cc 2) ?_) (pda_cons (PD.eq (pd_slT (pd_ixT (pd_var cc 1) pd_int) (po_some pe_W) (edo_some (pd_var cc 2)) po_none edo_none) ?_) pda_nil))) ?_ (by obtain ⟨q, n, f, cd, he⟩ := he; rw [he]; rfl)
  · rw [cut_take _ (by omega), ← List.map_take]
    rfl
  · unfold atI
    have e : ixN (endsL p).length (j : Int) = some j := by
      rw [endsL_len]
      unfold ixN
      rw [if_pos (by omega), Int.toNat_natCast, if_pos (by omega)]
    rw [e]
    exact endsL_get (by omega)
  · rw [cut_drop _ (by omega), ← List.map_drop]
    rfl
  refine psd_skip (pdt_w (pw_orF (PDT.eq (pdt_notB (pd_call cc g3 (pda_cons (pd_var cc 4) pda_nil) ⟨_, rfl, ok1, rfl⟩) pd_bl) (by decide)) (pdw_or1 (PDT.eq (pdt_notB (pd_call cc g3 (pda_cons (pd_var cc 5) pda_nil) ⟨_, rfl, ok2, rfl⟩) pd_bl) (by decide))))) ?_
  have row : ∀ (X' : Cx) (b : Nat), True := fun _ _ => trivial
  -- due
  refine psd_setLc c 6 [("_law_row", 11)] (fun d ρ => ρ.set 11 (some d)) keepD id (by decide +kernel) (sw_true (by rw [c.hs]; exact c.fk) (c.lc rfl) rfl (by decide +kernel))
    (pdi_list (pd_call cc g4 (pda_cons (pd_var cc 4) pda_nil) ⟨_, rfl, ok1, rfl⟩)) (Nat.le_trans (cornersTo_len _ _) (by omega)) (fun d hd _ => ?_) (fun X' _ c' => pg_blk c' 11) (fun d _ => gd_name (by decide)) (fun X' hX c' d hd => ?_) (fun X' hX c' d hd _ => pd_var c' 11) ?_
  · obtain ⟨i, _, rfl⟩ := cL_mem hd
    rfl
  · obtain ⟨i, _, rfl⟩ := cL_mem hd
    exact pdts_one (pdt_gt (pd_ixT (pd_var c' 11) pd_int) pd_int)
  rw [keep_eq, List.map_id, n1, posC_fst (Nat.le_of_lt hj) j (Nat.le_refl _)]
  -- ahead, behind
  refine psd_par c 7 8 (pd_ixT (pd_call cc g5 (pda_cons (pd_var cc 4) (pda_cons (PD.eq (d1 := .int ((j - 1 : Nat) : Int)) (pd_sub (pd_var cc 2) pd_int) (by congr 1; omega)) pda_nil)) ⟨_, j - 1, rfl, ok1, by omega, rfl⟩) pd_int)
    (pd_ixT (pd_call cc g5 (pda_cons (pd_var cc 5) (pda_cons pd_int pda_nil)) ⟨_, 0, rfl, ok2, by omega, rfl⟩) pd_int) ?_ (by obtain ⟨q, n, f, cd, he⟩ := he; rw [he]; rfl)
  have eu : hE (beginAt (fstP p j) (j - 1)) (pieceAt (fstP p j) (j - 1)) = hE (beginAt p (j - 1)) (pieceAt p (j - 1)) := by rw [fst_begin (by omega), fst_piece (by omega)]
  have ev : hB (beginAt (sndP p j) 0) (pieceAt (sndP p j) 0) = hB (beginAt p j) (pieceAt p j) := by rw [snd_begin, snd_piece, Nat.add_zero]
  have su := sz_hE (hp.sb (show j - 1 ≤ p.n by omega)) (hp.sp (j - 1) (by omega)) (hp.ok (j - 1) (by omega))
  have sv := sz_hB (hp.sb (Nat.le_of_lt hj)) (hp.sp j hj) (hp.ok j hj)
  have ew : cw p j = word (hE (beginAt p (j - 1)) (pieceAt p (j - 1))) (hB (beginAt p j) (pieceAt p j)) := by
    unfold cw
    rw [if_neg (by omega)]
  rw [eu, ev]
  generalize hE (beginAt p (j - 1)) (pieceAt p (j - 1)) = u at su ew
  generalize hB (beginAt p j) (pieceAt p j) = v at sv ew
  rw [word_law] at ew
  -- way, word
  refine psd_set c 9 (pd_ixT (pd_call cc g6 (pda_cons (pd_var cc 7) (pda_cons (pd_var cc 8) pda_nil)) ⟨_, _, rfl, su, sv, rfl⟩) pd_int) ?_
  have fin : ∀ x y : Str, PSD X ((defBody s72).drop 9) [none, some (pathD p), some (.int (j : Int)), some (.int (p.n : Int)), some (pathD (fstP p j)), some (pathD (sndP p j)), some (.list (posC p j)), some (pt u), some (pt v), some (.int (crossP u v).num), some (.str (cw p j)), none, none, none] (fun _ => False) (fun d => d = .bool true) := by
    intro x y
    refine psd_set c 6 (d := .list (posC p p.n)) (PD.eq (pd_catL (pd_catL (pd_var cc 6) (pd_lst (pda_cons (pd_tup (pda_cons (pd_var cc 2) (pda_cons (pd_var cc 10) pda_nil))) pda_nil)) ?_) (pd_lc cc [("_law_number", 12), ("_law_one", 13)] (fun d ρ => match d with
      | .tuple [a, b] => (ρ.set 12 (some a)).set 13 (some b)
      | _ => ρ) keepD (shD j) (by decide +kernel) (pdi_list (pd_call cc g4 (pda_cons (pd_var cc 5) pda_nil) ⟨_, rfl, ok2, rfl⟩)) (Nat.le_trans (cornersTo_len _ _) (by omega)) (fun d hd _ => ?_)
      (fun X' hX c' => pg_pair hX c' 12 13) (fun d hd => ?_) (fun X' _ c' d hd => ?_) (fun X' hX c' d hd _ => ?_)) ?_) ?_) ?_
    · have := List.length_filter_le (fun i => decide (0 < i)) (List.range j)
      unfold posC
      rw [List.length_map]
      simp only [List.length_range, List.length_cons, List.length_nil] at this ⊢
      omega
    · obtain ⟨i, _, rfl⟩ := cL_mem hd
      rfl
    · obtain ⟨i, _, rfl⟩ := cL_mem hd
      exact gd_tup2 (by decide) (by decide)
    · obtain ⟨i, _, rfl⟩ := cL_mem hd
      exact pdts_one (pdt_gt (pd_var c' 12) pd_int)
    · obtain ⟨i, _, rfl⟩ := cL_mem hd
      exact pd_tup (pda_cons (pd_add (pd_var c' 12) (pd_var c' 2)) (pda_cons (pd_var c' 13) pda_nil))
    · have t1 := List.length_filter_le (fun i => decide (0 < i)) (List.range j)
      have t2 := List.length_filter_le keepD (cornersL (sndP p j))
      have t3 := cornersTo_len (sndP p j) (sndP p j).n
      have t4 : (cornersL (sndP p j)).length ≤ (sndP p j).n := t3
      unfold posC
      simp only [List.length_append, List.length_map, List.length_range, List.length_cons, List.length_nil] at t1 t2 ⊢
      omega
    · rw [keep_eq, n2]
      have e := posC_snd (p := p) hj1 (p.n - j) (by omega)
      rw [show j + (p.n - j) = p.n by omega] at e
      exact congrArg PyData.list e
    refine psd_ret (pd_eqT cc (PD.eq (d1 := .list (posC p p.n)) (pd_lc cc [("_law_row", 11)] (fun d ρ => ρ.set 11 (some d)) keepD id (by decide +kernel) (pdi_list (pd_call cc g4 (pda_cons (pd_var cc 1) pda_nil) ⟨_, rfl, hp, rfl⟩)) (Nat.le_trans (cornersTo_len _ _) (by omega)) (fun d hd _ => ?_) (fun X' _ c' => pg_blk c' 11) (fun d _ => gd_name (by decide)) (fun X' hX c' d hd => ?_) (fun X' hX c' d hd _ => pd_var c' 11)) ?_)
      (pd_var cc 6) (eqv_rf _ (pl_pos p p.n)) ((sh_pos p p.n).ok (by decide)) ((sh_pos p p.n).ok (by decide))) rfl
    · obtain ⟨i, _, rfl⟩ := cL_mem hd
      rfl
    · obtain ⟨i, _, rfl⟩ := cL_mem hd
      exact pdts_one (pdt_gt (pd_ixT (pd_var c' 11) pd_int) pd_int)
    · rw [keep_eq, List.map_id]
  have two : ∀ (a b : Str) (t : Bool), atI [PyData.str a, PyData.str b] (if t then 1 else 0) = some (.str (if t then b else a)) := fun a b t => by cases t <;> rfl
  refine psd_set c 10 (pd_ixL (pd_lst (pda_cons pd_str (pda_cons pd_str pda_nil))) (pd_intB cc f.b_int (pd_lt (pd_var cc 9) pd_int)) (two _ _ _)) ?_
  by_cases hz : crossP u v = 0
  · refine psd_ifT (PDT.eq (pdt_eq cc (pd_var cc 9) pd_int eqi rfl rfl) (decide_eq_true (fr_num0.mpr hz))) (psd_set c 10 (d := .str (cw p j)) (PD.eq (pd_ixL (pd_lst (pda_cons pd_str (pda_cons pd_str pda_nil))) (pd_intB cc f.b_int (pd_eq cc (pd_var cc 7) (pd_var cc 8) eqv_pt rfl rfl)) (two _ _ _)) ?_) (psd_nil (fin "" "")))
    rw [ew, if_pos hz]
    by_cases e : u = v
    · rw [if_pos e, if_pos (decide_eq_true e)]
    · rw [if_neg e, if_neg (by simpa using e)]
  · refine psd_skip (PDT.eq (pdt_eq cc (pd_var cc 9) pd_int eqi rfl rfl) (decide_eq_false fun z => hz (fr_num0.mp z))) ?_
    have e : (if decide ((crossP u v).num < 0) = true then ("right" : Str) else "left") = cw p j := by
      rw [ew, if_neg hz]
      by_cases h : crossP u v < 0
      · rw [if_pos h, if_pos (decide_eq_true (fr_num.mpr h))]
      · rw [if_neg h, if_neg (by simpa using fun z => h (fr_num.mp z))]
    rw [e]
    exact fin "" ""
end
end SC

set_option maxHeartbeats 4000000
/-! the boxes -/
namespace SC
open PySem PySem.Spec PyProof.Rows L2 RZ
def cellOf (xs : List Int) (k : Nat) : Int := if k < xs.length then xs.getD k 0 else 0
def boxV (xs : List Int) (k : Nat) : List Int := [((cellOf xs k).natAbs : Int) * (if decide ((10 : Int) ^ (18 : Int).toNat ≤ ((cellOf xs k).natAbs : Int)) = true then 1 else 0), (cellOf xs k + 7919 * (k : Int) * (k : Int)) % 2147483647, 0]
/-- a new list: the box of a cell -/
def spBox1 (K : PySem.W.Frag) : Sp := fun vs H Q _ => ∃ (a : Addr) (xs : List Int) (k : Nat), vs = [.ref a, .int (k : Int)] ∧ H a = some (.lst (xs.map V.int)) ∧ k ≤ 1000 ∧ ∀ l H1, Same H H1 → H1 l = none → Q (.ref l) (upd H1 l (.lst ((boxV xs k).map V.int)))
theorem atI_nat {α : Type} {xs : List α} {k : Nat} {x : α} (h : xs[k]? = some x) : atI xs (k : Int) = some x := by
  have hk := (List.getElem?_eq_some_iff.mp h).1
  unfold atI ixN
  rw [if_pos (by omega), if_pos (by omega), Int.toNat_natCast]
  exact h
theorem dqa_ints {K : PySem.W.Frag} {H : Hp} {xs : List Int} : ∀ {vs : List V}, DqA K H vs (xs.map .int) → vs = xs.map V.int := by
  induction xs with
  | nil => intro vs h; cases h; rfl
  | cons x xs ih =>
    intro vs h
    cases h with
    | cons h1 h2 =>
      cases h1
      rw [ih h2]
      rfl
theorem dqa_of_ints {K : PySem.W.Frag} {H : Hp} (xs : List Int) : DqA K H (xs.map V.int) (xs.map .int) := by
  induction xs with
  | nil => exact .nil
  | cons x xs ih => exact .cons (.int x) ih
section
variable {P : Program} {w : World} {K : PySem.W.Frag} {mg : Str → Option Value} {base : Heap}
theorem kl_box (A : At K mg "_law_box" s49) (f : Fr mg) : Kn P w K mg base "_law_box" ["_law_script", "_law_k"] (spBox1 K) 1 := by
  refine def_raw A sc49 (by rintro _ H Q E ⟨a, xs, k, rfl, _⟩; rfl) (fun _ _ _ _ _ _ us hl => match us, hl with | [_, _], _ => rfl) ?_
  rintro X rfl rfl rfl rfl rfl c he _ H Q E ⟨a, xs, k, rfl, hx, hk, q⟩
  have cc := c.toCtx
  have E0 : EnvD X.K H (L2.start ["_law_script", "_law_k", "_law_cell"] [.ref a, .int (k : Int)]) [some (.list (xs.map .int)), some (.int (k : Int)), none] := EnvD.start (ds := [.list (xs.map .int), .int (k : Int)]) (.cons (.lst hx (dqa_of_ints xs)) (.cons (.int _) .nil))
  have tail : ∀ σ H1, Same H H1 → EnvD X.K H1 σ [some (.list (xs.map .int)), some (.int (k : Int)), some (.int (cellOf xs k))] → WSs X ((defBody s49).drop 2) { nx := fun _ H' => Q .non H', rt := Q } σ H1 := by
    intro σ H1 s1 E1
    refine ws_cons (ws_of (ps_ret (pe_lst pa_W)) ?_)
    refine (pda_cons (pd_op op_mul (pd_abs cc f.b_abs (pd_var cc 2)) (pd_intB cc f.b_int (pd_ge (pd_abs cc f.b_abs (pd_var cc 2)) (pd_pow pd_int pd_int ⟨by decide, by decide, by decide⟩))) (rd_I (.inr ?_) fun _ => .int _))
      (pda_cons (pd_mod (pd_add (pd_var cc 2) (pd_mul (pd_mul pd_int (pd_var cc 1) (mulW (x := 13) (y := 10) (by decide) (by omega))) (pd_var cc 1) (mulW (x := 30) (y := 10) (by omega) (by omega)))) pd_int (by decide)) (pda_cons pd_int pda_nil)) : PDA X _ _ ((boxV xs k).map .int)) σ H1 E1 _ fun vs H2 s2 hv => ?_
    · split <;> exact ⟨by decide, by decide⟩
    · rw [dqa_ints (xs := boxV xs k) hv]
      exact ⟨sz_le (show 3 ≤ 100000 by decide), fun l nl => q l H2 (s1.trans s2) nl⟩
  refine ws_cons (ws_of (ps_set (i := 2) c.nd' (by rw [c.hN]; rfl) (c.loc (Or.inl rfl)) pe_int rfl (.inl (c.fn _))) ?_)
  have E1 := E0.set (v := .int 0) (d := .int 0) (.int 0) 2
  by_cases hl : k < xs.length
  · have ec : (xs.map PyData.int)[k]? = some (.int (cellOf xs k)) := by
      unfold cellOf
      rw [if_pos hl, List.getElem?_map, List.getD_eq_getElem?_getD, List.getElem?_eq_getElem hl]
      rfl
    refine ws_cons (ws_of (ps_if pt_W pss_W pss_W) ((PDT.eq (pdt_lt (pd_var cc 1) (pd_lenL cc f.b_len (pd_var cc 0))) (decide_eq_true (by rw [List.length_map]; omega)) : PDT X _ _ true) _ H E1 _ fun H1 s1 => ?_))
    rw [if_pos rfl]
    refine ws_cons (ws_of (ps_set (i := 2) c.nd' (by rw [c.hN]; rfl) (c.loc (Or.inl rfl)) pe_W rfl (.inl (c.fn _))) ?_)
    refine (pd_ixL (pd_var cc 0) (pd_var cc 1) (atI_nat ec) : PD X _ _ (.int (cellOf xs k))) _ H1 (E1.mono s1) _ fun v H2 s2 hv => ?_
    exact wss_nil (tail _ H2 (s1.trans s2) (((E1.mono s1).mono s2).set hv 2))
  · refine ws_cons (ws_of (ps_if pt_W pss_W pss_W) ((PDT.eq (pdt_lt (pd_var cc 1) (pd_lenL cc f.b_len (pd_var cc 0))) (decide_eq_false (by rw [List.length_map]; omega)) : PDT X _ _ false) _ H E1 _ fun H1 s1 => ?_))
    rw [if_neg (by decide)]
    refine wss_nil (tail _ H1 s1 ?_)
    have e : cellOf xs k = 0 := by
      unfold cellOf
      rw [if_neg hl]
    rw [e]
    exact E1.mono s1
end
theorem boxV_bx {H : Hp} {b : Addr} {xs : List Int} {k : Nat} (h : H b = some (.lst ((boxV xs k).map V.int))) : Bx H b 0 := by
  refine ⟨_, _, _, h, ?_, Int.emod_nonneg _ (by decide), Int.emod_lt_of_pos _ (by decide), by decide, by decide⟩
  split
  · omega
  · omega
/-- what the boxes are -/
structure Bxs (H H' : Hp) (l : Addr) (bs : List Addr) : Prop where
  same : Same H H'
  fl : H l = none
  lst : H' l = some (.lst (bs.map V.ref))
  len : bs.length ≤ 64
  nd : bs.Nodup
  box : ∀ b ∈ bs, H b = none ∧ b ≠ l ∧ Bx H' b 0
def spBoxes (K : PySem.W.Frag) : Sp := fun vs H Q _ => ∃ (a : Addr) (ns : List Int), vs = [.ref a, .int 4] ∧ SqL K H a (ns.map V.int) ∧ ns.length ≤ 63 ∧ ∀ l bs H', Bxs H H' l bs → Q (.ref l) H'
theorem sqL_mono {K : PySem.W.Frag} {H H' : Hp} {a : Addr} {xs : List V} (e : Same H H') (h : SqL K H a xs) : SqL K H' a xs := by
  rcases h with (h | ⟨o, h⟩) | h
  · exact .inl (.inl (e _ _ h))
  · exact .inl (.inr ⟨o, e _ _ h⟩)
  · exact .inr h
theorem wts_yes {X : Cx} {σ : L2.St} {H : Hp} {A B : Hp → Prop} (h : A H) : WTs X [] σ H (fun b H3 => if b = true then A H3 else B H3) := ⟨_, pts_nil, by
  show (if true = true then A H else B H)
  rw [if_pos rfl]
  exact h⟩
theorem cut_len (ns : List Int) : (cutD ns none (some 4)).length = min 4 ns.length ∧ (cutD ns (some 4) (some 63)).length = min 63 ns.length - min 4 ns.length := by
  have e4 : ∀ d, HT.sIx ns.length d (some 4) = min 4 ns.length := fun d => HT.sIx_nat ns.length d 4
  have e63 : ∀ d, HT.sIx ns.length d (some 63) = min 63 ns.length := fun d => HT.sIx_nat ns.length d 63
  unfold cutD
  rw [HT.sIx_none, e4, e4, e63]
  simp only [List.length_take, List.length_drop]
  omega
theorem cutV_ints (ns : List Int) (lo hi : Option Int) : cutV (ns.map V.int) lo hi = (cutD ns lo hi).map V.int := by
  unfold cutV cutD
  rw [List.map_take, List.map_drop, List.length_map]
theorem bx_upd {H : Hp} {l b : Addr} {o : HO} {n : Nat} (h : Bx H b n) (ne : b ≠ l) : Bx (upd H l o) b n := by
  obtain ⟨x, y, z, h1, r⟩ := h
  exact ⟨x, y, z, by rw [upd_ne ne]; exact h1, r⟩
section
variable {P : Program} {w : World} {K : PySem.W.Frag} {mg : Str → Option Value} {base : Heap}
theorem kl_boxes (A : At K mg "_law_boxes" s51) (f : Fr mg) (g : Kn P w K mg base "_law_box" ["_law_script", "_law_k"] (spBox1 K) 1) : Kn P w K mg base "_law_boxes" ["_law_script", "_law_most"] (spBoxes K) 2 := by
  refine def_raw A sc51 (by rintro _ H Q E ⟨a, ns, rfl, _⟩; rfl) (fun _ _ _ _ _ _ us hl => match us, hl with | [_, _], _ => rfl) ?_
  rintro X rfl rfl rfl rfl rfl c he _ H Q E ⟨a, ns, rfl, hq, hn, q⟩
  have cc := c.toCtx
  have tail : ∀ (gs : List Int) (l0 : Addr) σ H1, Same H H1 → gs.length ≤ 63 → H1 l0 = some (.lst (gs.map V.int)) → σ.length = 5 → σ[2]? = some (some (.ref l0)) → WSs X ((defBody s51).drop 2) { nx := fun _ H' => Q .non H', rt := Q } σ H1 := by
    intro gs l0 σ H1 s1 hgs hl0 h5 hσ
    have E1 : EnvD X.K H1 σ [none, none, some (.list (gs.map .int)), none, none] := ⟨h5, fun i d hi => by
      match i, hi with
      | 2, hi => cases hi; exact ⟨_, hσ, .lst hl0 (dqa_of_ints gs)⟩
      | 3, hi => cases hi
      | 4, hi => cases hi
      | n + 5, hi => cases hi⟩
    refine ws_cons (ws_of (ps_ret (pe_lc (own := [("_law_k", 3)]) c.calm c.nd' pi_W (by rw [c.hN, c.hs]; exact blkOk_by (by decide +kernel)) (fun s H C cl fp => pg_blk (InBlk.ctx cc ⟨s, H, C, cl, fp, rfl⟩) 3) (fun s H C cl fp => pts_WB ⟨s, H, C, cl, fp, rfl⟩) (fun s H C cl fp => pe_WB ⟨s, H, C, cl, fp, rfl⟩) (by intro _; rfl))) ?_)
    have hmax : PD X (.Call (.Name "max" ⟨176, 61, 176, 64⟩) [.Constant (.int 2) 0 ⟨176, 65, 176, 66⟩, .Call (.Name "len" ⟨176, 68, 176, 71⟩) [.Name "_law_found" ⟨176, 72, 176, 82⟩] [] ⟨176, 68, 176, 83⟩] [] ⟨176, 61, 176, 84⟩) [none, none, some (.list (gs.map .int)), none, none] (.int (max 2 gs.length : Nat)) :=
      PD.mk (pe_callB (call_max2 c.calm) (cc.gl rfl) f.b_max PyProof.Rows.boot_max pa_W) fun σ H E Q q => (pda_cons pd_int (pda_cons (pd_lenL cc f.b_len (pd_var cc 2)) pda_nil) : PDA X _ _ _) σ H E _ fun vs H1 s1 hv => by
        rw [dqa_two hv]
        refine ⟨_, _, rfl, q _ H1 s1 ?_⟩
        have e : (if ((gs.map PyData.int).length : Int) > 2 then ((gs.map PyData.int).length : Int) else 2) = ((max 2 gs.length : Nat) : Int) := by
          rw [List.length_map]
          split <;> omega
        rw [e]
        exact .int _
    refine ⟨_, pi_range1 (cc.gl rfl) f.b_range (pa_cons pe_W pa_nil), hmax σ H1 E1 _ fun v H2 s2 hv => ?_⟩
    cases hv
    refine ⟨_, rfl, by omega, by omega, fun D nD => ?_⟩
    rw [Int.toNat_natCast]
    refine lc_range (fun i H' => Same H2 H' ∧ ∃ bs : List Addr, H' D = some (.lst (bs.map V.ref)) ∧ bs.length = i ∧ bs.Nodup ∧ ∀ b ∈ bs, H2 b = none ∧ b ≠ D ∧ Bx H' b 0) ⟨same_upd nD, [], upd_same, rfl, List.nodup_nil, nofun⟩ ?_ ?_
    · rintro i H3 hi ⟨s3, bs, hD, hlen, hnd, hbs⟩
      rw [Int.zero_add]
      have E3 : EnvD X.K H3 _ [none, none, some (.list (gs.map .int)), some (.int (i : Int)), none] := (((E1.mono s2).mono s3).wipe [3]).set (.int (i : Int)) 3
      refine ⟨by rw [wipe_set (by decide), wipe_wipe], fun X2 hX2 => wts_yes ?_⟩
      intro X3 hX3
      have eK := hX3.same.K
      have c3 := hX3.ctx cc
      have g3 : KnX X3 "_law_box" ["_law_script", "_law_k"] (spBox1 X.K) 1 := g.blk hX3.same
      refine we_call c3 g3 ?_
      refine (pda_cons (pd_var c3 2) (pda_cons (pd_var c3 3) pda_nil) : PDA X3 _ [none, none, some (.list (gs.map .int)), some (.int (i : Int)), none] [.list (gs.map .int), .int (i : Int)]) _ H3 (by rw [eK]; exact E3) _ fun vs H4 s4 hv => ?_
      cases hv with
      | cons h1 h2 =>
        cases h2 with
        | cons h2 h3 =>
          cases h3
          cases h2
          cases h1 with
          | lst h4 h5 =>
            rw [dqa_ints h5] at h4
            refine ⟨_, gs, i, rfl, h4, by omega, fun l H5 s5 nl => ?_⟩
            have hD5 := s5 _ _ (s4 _ _ hD)
            have lD : l ≠ D := fun z => by
              rw [z, hD5] at nl
              cases nl
            have s25 : Same H2 H5 := s3.trans (s4.trans s5)
            have n2 : H2 l = none := by
              cases e : H2 l with
              | none => rfl
              | some u =>
                rw [s25 _ _ e] at nl
                cases nl
            have hD6 : (upd H5 l (.lst ((boxV gs i).map V.int))) D = some (.lst (bs.map V.ref)) := by
              rw [upd_ne lD.symm]
              exact hD5
            refine ⟨bs.map V.ref, hD6, by rw [List.length_map, hlen]; exact Nat.lt_of_lt_of_le (show i < 100000 by omega) (by decide), ?_, bs ++ [l], by rw [List.map_append]; exact upd_same, by rw [List.length_append, hlen]; rfl, ?_, ?_⟩
            · intro b o e
              have nb : b ≠ D := ne_of_none e nD
              have nb2 : b ≠ l := ne_of_none e n2
              rw [upd_ne nb, upd_ne nb2]
              exact s25 _ _ e
            · refine List.nodup_append.mpr ⟨hnd, by simp, fun x hx y hy => ?_⟩
              have e : y = l := by simpa using hy
              rw [e]
              intro z
              obtain ⟨_, _, hb⟩ := hbs x hx
              obtain ⟨xs, e2⟩ := hb.some
              rw [z] at e2
              rw [s5 _ _ (s4 _ _ e2)] at nl
              cases nl
            · intro b hb
              rcases List.mem_append.mp hb with hb | hb
              · obtain ⟨h1, h2, h3⟩ := hbs b hb
                refine ⟨h1, h2, ?_⟩
                have hx := (h3.same s4).same s5
                have nb : b ≠ l := fun z => by
                  obtain ⟨xs, e2⟩ := hx.some
                  rw [z, nl] at e2
                  cases e2
                exact bx_upd (bx_upd hx nb) h2
              · have e : b = l := by simpa using hb
                subst e
                exact ⟨n2, lD, bx_upd (boxV_bx upd_same) lD⟩
    · rintro H3 ⟨s3, bs, hD, hlen, hnd, hbs⟩
      have s12 := s1.trans s2
      have non : ∀ x, H2 x = none → H x = none := fun x h => by
        cases e : H x with
        | none => rfl
        | some u =>
          rw [s12 _ _ e] at h
          cases h
      exact q D bs H3 ⟨s12.trans s3, non _ nD, hD, by omega, hnd, fun b hb => let ⟨h1, h2, h3⟩ := hbs b hb; ⟨non b h1, h2, h3⟩⟩
  have hs0 : ∀ i : Nat, i < 2 → (L2.start ["_law_script", "_law_most", "_law_found", "_law_k", "_law_cell"] [.ref a, .int 4])[i]? = ([some (.ref a), some (.int 4), none, none, none] : L2.St)[i]? := fun _ _ => rfl
  have hs1 := hs0 0 (by decide)
  have hs2 := hs0 1 (by decide)
  have hs5 : (L2.start ["_law_script", "_law_most", "_law_found", "_law_k", "_law_cell"] [.ref a, .int 4]).length = 5 := rfl
  generalize L2.start ["_law_script", "_law_most", "_law_found", "_law_k", "_law_cell"] [.ref a, .int 4] = σ at hs1 hs2 hs5
  obtain ⟨lf, lc⟩ := cut_len ns
  refine ws_cons (ws_of (ps_set (i := 2) c.nd' (by rw [c.hN]; rfl) (c.loc (Or.inr rfl)) (pe_callTy call_list_of (cc.gl rfl) f.b_list PyProof.Rows.boot_list (pa_cons (pe_slice sl_list pe_W po_none (po_some pe_W)) pa_nil)) rfl (.inl (c.fn _))) ?_)
  refine we_var cc 0 hs1 (we_var cc 1 hs2 ⟨4, rfl, a, ns.map V.int, rfl, hq, fun p np => ⟨p, _, rfl, .inl (SqL.of upd_same), fun l nl => ?_⟩⟩)
  rw [cutV_ints] at nl ⊢
  have sp0 : Same H (upd H p (.lst ((cutD ns none (some 4)).map V.int))) := same_upd np
  have sl0 := sp0.trans (same_upd (o := .lst ((cutD ns none (some 4)).map V.int)) nl)
  have hl : (upd (upd H p (.lst ((cutD ns none (some 4)).map V.int))) l (.lst ((cutD ns none (some 4)).map V.int))) l = some (.lst ((cutD ns none (some 4)).map V.int)) := upd_same
  have fl : H l = none := by
    cases e : H l with
    | none => rfl
    | some u =>
      rw [sp0 _ _ e] at nl
      cases nl
  generalize upd (upd H p (.lst ((cutD ns none (some 4)).map V.int))) l (.lst ((cutD ns none (some 4)).map V.int)) = H1 at sl0 hl
  have q1 : (σ.set 2 (some (.ref l)))[0]? = some (some (.ref a)) := by rw [List.getElem?_set_ne (by decide)]; exact hs1
  have q2 : (σ.set 2 (some (.ref l)))[1]? = some (some (.int 4)) := by rw [List.getElem?_set_ne (by decide)]; exact hs2
  have q3 : (σ.set 2 (some (.ref l)))[2]? = some (some (.ref l)) := List.getElem?_set_self (by omega)
  have q5 : (σ.set 2 (some (.ref l))).length = 5 := by rw [List.length_set]; exact hs5
  refine ws_cons (ws_of (ps_for c.never c.calm (pi_enum (cc.gl rfl) f.b_enumerate (pa_cons (pe_slice sl_list pe_W (po_some pe_W) (po_some pe_W)) pa_nil)) (pg_tup cc.calm (pgs_cons (pg_of c 3) (pgs_cons (pg_of c 4) pgs_nil))) pss_W) ?_)
  refine we_var cc 0 q1 (we_var cc 1 q2 ⟨4, rfl, we_int ⟨63, rfl, a, ns.map V.int, rfl, sqL_mono sl0 hq, fun p2 np2 => ⟨p2, _, rfl, SqL.of upd_same, ?_⟩⟩⟩)
  rw [cutV_ints]
  generalize hfs : cutD ns none (some 4) = fs at lf hl
  generalize hcs : cutD ns (some 4) (some 63) = cs at lc
  have lp2 : p2 ≠ l := fun z => by
    rw [z, hl] at np2
    cases np2
  refine ⟨fun i m σ' H' => i ≤ cs.length ∧ m = cs.length - i ∧ Same H H' ∧ H' p2 = some (.lst (cs.map V.int)) ∧ σ'.length = 5 ∧ σ'[1]? = some (some (.int 4)) ∧ σ'[2]? = some (some (.ref l)) ∧ ∃ gs : List Int, H' l = some (.lst (gs.map V.int)) ∧ gs.length = fs.length, ⟨cs.length, Nat.zero_le _, rfl, sl0.trans (same_upd np2), upd_same, q5, q2, q3, fs, by rw [upd_ne lp2.symm]; exact hl, rfl⟩, fun i m σ' H' hW => ?_⟩
  obtain ⟨hi1, rfl, sH, hp2, k5, k1, k2, gs, hgl, hglen⟩ := hW
  by_cases hlt : i < cs.length
  · have hci : (cs.map V.int)[i]? = some (.int cs[i]) := by
      rw [List.getElem?_map, List.getElem?_eq_getElem hlt]
      rfl
    generalize cs[i] = ci at hci
    refine .inr ⟨⟨_, _, SqL.of hp2, hci⟩, fun σ' H' => Same H H' ∧ H' p2 = some (.lst (cs.map V.int)) ∧ σ'.length = 5 ∧ σ'[1]? = some (some (.int 4)) ∧ σ'[2]? = some (some (.ref l)) ∧ ∃ gs : List Int, H' l = some (.lst (gs.map V.int)) ∧ gs.length = fs.length, fun σ2 H2 z => ⟨cs.length - (i + 1), by omega, hlt, rfl, z⟩, ?_⟩
    rintro _ _ ⟨T, x, rfl, nT, rfl, hx⟩
    have ex := hx _ (SqL.of hp2)
    rw [hci] at ex
    cases ex
    have h4 : gs.length = 4 := by omega
    have sT : Same H' (upd H' T (.tup [.int ((i : Nat) : Int), .int ci])) := same_upd nT
    refine ⟨T, _, rfl, SqT.of upd_same, rfl, _, _, rfl, _, _, rfl, rfl, ?_⟩
    have E3 : EnvD X.K (upd H' T (.tup [.int ((i : Nat) : Int), .int ci])) ((σ'.set 3 (some (.int ((i : Nat) : Int)))).set 4 (some (.int ci))) [none, some (.int 4), some (.list (gs.map .int)), some (.int (i : Int)), some (.int ci)] := by
      have E0 : EnvD X.K (upd H' T (.tup [.int ((i : Nat) : Int), .int ci])) σ' [none, some (.int 4), some (.list (gs.map .int)), none, none] := ⟨k5, fun i d hi => by
        match i, hi with
        | 1, hi => cases hi; exact ⟨_, k1, .int _⟩
        | 2, hi => cases hi; exact ⟨_, k2, .lst (sT _ _ hgl) (dqa_of_ints gs)⟩
        | 3, hi => cases hi
        | 4, hi => cases hi
        | n + 5, hi => cases hi⟩
      exact (E0.set (.int (i : Int)) 3).set (.int ci) 4
    have em : ((i : Nat) : Int) % 4 = ((i % 4 : Nat) : Int) := by omega
    have hget : (gs.map PyData.int)[i % 4]? = some (.int (gs[i % 4]'(by omega))) := by
      rw [List.getElem?_map, List.getElem?_eq_getElem (by omega)]
      rfl
    generalize gs[i % 4]'(by omega) = gi at hget
    have ix : PD X (.BinOp (.Name "_law_k" ⟨175, 52, 175, 58⟩) .Mod (.Name "_law_most" ⟨175, 61, 175, 70⟩) ⟨175, 52, 175, 70⟩) [none, some (.int 4), some (.list (gs.map .int)), some (.int (i : Int)), some (.int ci)] (.int ((i % 4 : Nat) : Int)) := PD.eq (pd_mod (pd_var cc 3) (pd_var cc 1) (by decide)) (by rw [em])
    have ix2 : PD X (.BinOp (.Name "_law_k" ⟨175, 19, 175, 25⟩) .Mod (.Name "_law_most" ⟨175, 28, 175, 37⟩) ⟨175, 19, 175, 37⟩) [none, some (.int 4), some (.list (gs.map .int)), some (.int (i : Int)), some (.int ci)] (.int ((i % 4 : Nat) : Int)) := PD.eq (pd_mod (pd_var cc 3) (pd_var cc 1) (by decide)) (by rw [em])
    refine ws_cons (ws_of (ps_asg pe_W (pg_sub pe_W pe_W set_list)) ?_)
    refine (pd_add (pd_ixL (pd_var cc 2) ix (atI_nat hget)) (pd_op op_mul (pd_var cc 4) (pd_add (pd_var cc 3) pd_int) (rd_I (.inr ⟨by omega, by omega⟩) fun _ => .int _)) : PD X _ _ (.int (gi + ci * ((i : Int) + 2)))) _ _ E3 _ fun v H5 s5 hv5 => ?_
    cases hv5
    have k2' : ((σ'.set 3 (some (.int ((i : Nat) : Int)))).set 4 (some (.int ci)))[2]? = some (some (.ref l)) := by
      rw [List.getElem?_set_ne (by decide), List.getElem?_set_ne (by decide)]
      exact k2
    refine we_var cc 2 k2' (ix2 _ H5 (E3.mono s5) _ fun v H6 s6 hv6 => ?_)
    cases hv6
    have sH6 := sT.trans (s5.trans s6)
    have hl6 := sH6 _ _ hgl
    refine ⟨l, _, _, i % 4, rfl, rfl, hl6, ?_, wss_nil ⟨?_, ?_, by simp only [List.length_set]; exact k5, ?_, k2', gs.set (i % 4) (gi + ci * ((i : Int) + 2)), by rw [List.map_set]; exact upd_same, by rw [List.length_set]; exact hglen⟩⟩
    · unfold ixN
      rw [List.length_map, if_pos (by omega), if_pos (by omega), Int.toNat_natCast]
    · intro b o e
      rw [upd_ne (ne_of_none e fl)]
      exact sH6 _ _ (sH _ _ e)
    · rw [upd_ne lp2]
      exact sH6 _ _ hp2
    · rw [List.getElem?_set_ne (by decide), List.getElem?_set_ne (by decide)]
      exact k1
  · have e : i = cs.length := by omega
    subst e
    exact .inl ⟨⟨_, SqL.of hp2, by rw [List.length_map]; exact Nat.le_refl _⟩, tail gs l σ' H' sH (by omega) hgl k5 k2⟩
end
end SC

set_option maxHeartbeats 4000000
/-! deeds, and deeds undone -/
namespace SC
open PySem PySem.Spec PyProof.Rows L2 RZ
section
variable {D M N : Nat} {p : Path} {v : Pt} {k : Int}
theorem CdP.mir {p : Pt} (h : CdP D M p) : CdP D M (mirP p) := ⟨h.x.neg, h.y⟩
theorem CdP.addP {p v : Pt} (h : CdP D M p) (g : CdP D N v) : CdP D (M + N) (padd p v) := ⟨h.x.add g.x, h.y.add g.y⟩
theorem Gp.sb (h : Gp D M p) {i : Nat} (hi : i ≤ p.n) : CdP D M (beginAt p i) := by
  unfold beginAt
  split
  · exact h.ss
  · exact (h.sp (i - 1) (by omega)).to
theorem Gp.mono (h : Gp D M p) (k : M ≤ N) : Gp D N p := ⟨h.pos, h.len, h.ok, h.ss.mono k, fun i hi => (h.sp i hi).mono k⟩
theorem Gp.mir (h : Gp D M p) (d0 : 0 < D) (hd : D < 2 ^ 100) (hm : M < 2 ^ 100) : Gp D M (mir p) := by
  have o := ok_mir (h.Ok d0 hd hm)
  refine ⟨o.pos, by rw [n_mir]; exact h.len, o.ok, h.ss.mir, fun i hi => ?_⟩
  rw [n_mir] at hi
  rw [piece_mir hi]
  have := h.sp i hi
  cases e : pieceAt p i with
  | side t =>
    rw [e] at this
    exact CdP.mir this
  | arc m t l =>
    rw [e] at this
    exact ⟨CdP.mir this.1, CdP.mir this.2⟩
theorem CdPc.mov {c : Pc} (h : CdPc D M c) (g : CdP D N v) : CdPc D (M + N) (movPc v c) := by
  cases c with
  | side t => exact CdP.addP h g
  | arc m t l => exact ⟨CdP.addP h.1 g, CdP.addP h.2 g⟩
theorem Gp.mov (h : Gp D M p) (g : CdP D N v) (d0 : 0 < D) (hd : D < 2 ^ 100) (hm : M + N < 2 ^ 100) : Gp D (M + N) (mov p v) := by
  have hs := h.ss.addP g
  have hp : ∀ i, i < p.n → CdPc D (M + N) (movPc v (pieceAt p i)) := fun i hi => (h.sp i hi).mov g
  have o := ok_mov (v := v) (h.Ok d0 hd (by omega)) (hs.sz d0 hd hm) fun i hi => (hp i hi).sz d0 hd hm
  refine ⟨o.pos, by rw [n_mov]; exact h.len, o.ok, hs, fun i hi => ?_⟩
  rw [n_mov] at hi
  rw [piece_mov hi]
  exact hp i hi
theorem Gp.turned (h : Gp D M p) (d0 : 0 < D) (hd : D < 2 ^ 100) (hm : M < 2 ^ 100) : Gp D M (turned p) := by
  have o := ok_turned (h.Ok d0 hd hm)
  refine ⟨o.pos, by rw [n_turned]; exact h.len, o.ok, h.sb (Nat.le_refl _), fun i hi => ?_⟩
  rw [n_turned] at hi
  rw [piece_turned hi]
  have hb := h.sb (show p.n - 1 - i ≤ p.n by omega)
  have := h.sp (p.n - 1 - i) (by omega)
  cases e : pieceAt p (p.n - 1 - i) with
  | side t => exact hb
  | arc m t l =>
    rw [e] at this
    exact ⟨this.1, hb⟩
theorem Gp.done (h : Gp D M p) (g : CdP D N v) (d0 : 0 < D) (hd : D < 2 ^ 100) (hm : M + N < 2 ^ 100) : Gp D (M + N) (done p k v) := by
  unfold SC.done
  split
  · exact h.mov g d0 hd hm
  · split
    · exact (h.mir d0 hd (by omega)).mono (by omega)
    · exact (h.turned d0 hd (by omega)).mono (by omega)
theorem done_done (hk : k = 0 ∨ k = 1 ∨ k = 2) : done (done p k v) k (negP v) = p := by
  rcases hk with rfl | rfl | rfl
  · exact turned_turned p
  · exact mir_mir p
  · exact mov_mov p v
/-- the first i deeds done -/
noncomputable def st (p : Path) (v : Pt) (ks : List Int) (i : Nat) : Path := (ks.take i).foldl (fun q k => SC.done q k v) p
theorem st_succ {ks : List Int} {i : Nat} (h : ks[i]? = some k) : st p v ks (i + 1) = done (st p v ks i) k v := by
  unfold st
  rw [List.take_add_one, h, List.foldl_append]
  rfl
theorem st_gp (h : Gp D M p) (g : CdP D N v) (d0 : 0 < D) (hd : D < 2 ^ 100) (ks : List Int) : ∀ i, M + i * N < 2 ^ 100 → i ≤ ks.length → Gp D (M + i * N) (st p v ks i)
  | 0, _, _ => by
    rw [Nat.zero_mul]
    exact h
  | i + 1, hm, hi => by
    rw [Nat.succ_mul] at hm ⊢
    have hk : ks[i]? = some ks[i] := List.getElem?_eq_getElem hi
    rw [st_succ hk, ← Nat.add_assoc]
    exact (st_gp h g d0 hd ks i (by omega) (by omega)).done g d0 hd (by omega)
theorem Gp.scale (h : Gp D M p) (c : Nat) : Gp (D * c) (M * c) p := by
  have sc : ∀ {q : Pt}, CdP D M q → CdP (D * c) (M * c) q := fun z => ⟨z.x.scale c, z.y.scale c⟩
  refine ⟨h.pos, h.len, h.ok, sc h.ss, fun i hi => ?_⟩
  have := h.sp i hi
  cases e : pieceAt p i with
  | side t =>
    rw [e] at this
    exact sc this
  | arc m t l =>
    rw [e] at this
    exact ⟨sc this.1, sc this.2⟩
end
end SC

set_option maxHeartbeats 4000000
/-! the law -/
namespace SC
open PySem PySem.Spec PyProof.Rows L2 RZ
theorem Kn.blkB {X X' : Cx} {x : Str} {ps : List Str} {m : Nat} {Pre : List PyData → Prop} {Post : List PyData → PyData → Prop} {k : Nat} (h : SameW X X') (g : KnX X x ps (spBx X.K m Pre Post) k) : KnX X' x ps (spBx X'.K m Pre Post) k := by
  have g2 := Kn.blk h g
  rw [← h.K] at g2
  exact g2
section
variable {X : Cx} {N : List Str} {sc : Scope} {k : Nat} {ρ : Rho} {c0 : Expr} {rest body : List Stmt} {pos p p2 : Pos} {j m1 m2 : Nat} {o : Own} {Nx : Rho → Own → Prop} {R : PyData → Prop}
/-- a draw below a literal, the box at slot j -/
theorem be_takeJ {i : Int} {z : Nat} {p3 : Pos} (c : Ctx X N sc k) (mm : Nat) (g : KnX X "_law_take" ["_law_box_here", "_law_many"] (spBx X.K 1 PR_take PO_take) 1) (hi : i = (mm : Int) := by rfl) (hm : 0 < mm := by decide) (hm2 : mm < 1073741824 := by decide)
    (hj : 1 ≤ k := by decide) (hN : N[j]? = some ("_law_box_here" : Str) := by rfl) (hv : Vis sc "_law_box_here" := by first | exact Or.inl rfl | exact Or.inr (Or.inl rfl) | exact Or.inr (Or.inr rfl)) (hg : sc.names.lookup ("_law_take" : Str) = some .globalImplicit := by rfl) :
    BE X (.Call (.Name "_law_take" p) [.Name "_law_box_here" p2, .Constant (.int i) z p3] [] pos) ρ j 1 (fun d => ∃ r : Nat, d = .int (r : Int) ∧ r < mm) :=
  be_weak (be_draw c g (bea_cons (be_pd pd_int) bea_nil) (fun ds ⟨d, r, e1, e2, e3⟩ => ⟨mm, by rw [e1, e2, e3, hi], hm, hm2⟩) hj hN hv (by decide) (by decide) hg) (Nat.le_refl _) fun d ⟨ds, ⟨d0, r, e1, e2, e3⟩, m', r', h1, h2, h3⟩ => by
    subst e1 e2 e3
    injection h1 with h1 _
    injection h1 with h1
    exact ⟨r', h2, by omega⟩
/-- from here on, to these ends -/
def BW (X : Cx) (D : Ends) (H0 : Hp) (b : Addr) (sts : List Stmt) (ρ : Rho) (j : Nat) (o : Own) (n : Nat) : Prop := ∀ σ H, BV X.K H0 H σ ρ j b n o → WSs X sts D σ H
section
variable {D : Ends} {H0 : Hp} {b : Addr} {n : Nat} {e : Expr} {P : PyData → Prop}
theorem bw_set {x : Str} (c : DCtx X N sc k) (i : Nat) (he : BE X e ρ j m1 P) (hk : ∀ d, P d → BW X D H0 b rest (ρ.set i (some d)) j o (n + m1)) (ap : Apart i j o) (hn : n + m1 ≤ 100000 := by decide) (hN : N[i]? = some x := by rfl) (hx : Loc sc x := by first | exact Or.inl rfl | exact Or.inr rfl) (hs : swapsWith e (some (.Name x p)) pos.line X.env = pure false := by rfl) :
    BW X D H0 b (.Assign [.Name x p] e pos :: rest) ρ j o n := fun σ H B =>
  ws_cons (ws_of (ps_set (i := i) c.nd' (by rw [c.hN]; exact hN) (c.loc hx) pe_W hs (.inl (c.fn x))) (he σ H b n (by omega) B.env B.tp B.slot B.bx _ fun v H1 d hd t hv s hb1 => hk d hd _ H1 ((B.mono s hb1).set hv t ap.1 ap.2)))
/-- an if whose test draws and is false -/
theorem bw_skip (hc : ∀ σ H, EnvD X.K H σ ρ → TP ρ → σ[j]? = some (some (.ref b)) → Bx H b n → ∀ Q : Bool → Hp → Prop, (∀ H', SBx b H H' → Bx H' b (n + m1) → Q false H') → WT X c0 σ H Q) (hk : BW X D H0 b rest ρ j o (n + m1)) : BW X D H0 b (.If c0 body [] pos :: rest) ρ j o n := fun σ H B =>
  ws_cons (ws_of (ps_if pt_W pss_W pss_W) (hc σ H B.env B.tp B.slot B.bx _ fun H1 s hb1 => by
    rw [if_neg (by decide)]
    exact wss_nil (hk σ H1 (B.mono s hb1))))
/-- the own list is a datum from here on; no more draws, no more of what comes behind but the count of names -/
theorem bw_pureO {jl nn : Nat} {acc : List PyData} {M : Rho → Prop} (h : PSD X rest (ρ.set jl (some (.list acc))) M (fun _ => False)) (hM : ∀ ρ', M ρ' → ρ'.length = nn) (nx : ∀ σ' H', SBx b H0 H' → σ'.length = nn → D.nx σ' H') : BW X D H0 b rest ρ j (some (jl, acc)) n := fun σ H B => by
  obtain ⟨l, vs', h1', h2', h3, h4, h5, h6⟩ := B.own
  have E : EnvD X.K H σ (ρ.set jl (some (.list acc))) := ⟨by simp [B.env.len], fun r dd hh => by
    by_cases hr : jl = r
    · subst hr
      by_cases hlt : jl < ρ.length
      · rw [List.getElem?_set_self hlt] at hh
        cases hh
        exact ⟨_, h1', .lst h4 h5⟩
      · rw [List.getElem?_eq_none (by simpa using hlt)] at hh
        cases hh
    · rw [List.getElem?_set_ne hr] at hh
      exact B.env.get r dd hh⟩
  exact h σ H D E (fun ρ' σ' H' z s E' => nx σ' H' (B.fr.trans (SBx.of_same s)) (E'.len.trans (hM ρ' z))) fun d v H' z s hv => z.elim
end
end
theorem di_420 {n : Int} {d : Nat} {M : Nat} (hd : 0 < d) (hd2 : d ≤ 7) (hn : n.natAbs ≤ M) : Cd 420 (420 * M) (Rat.divInt n (d : Int)) := by
  refine (Cd.di hd).dvd (420 / d) ?_ ?_
  · match d, hd, hd2 with
    | 1, _, _ => rfl
    | 2, _, _ => rfl
    | 3, _, _ => rfl
    | 4, _, _ => rfl
    | 5, _, _ => rfl
    | 6, _, _ => rfl
    | 7, _, _ => rfl
  · refine Nat.le_trans (Nat.mul_le_mul_right _ hn) ?_
    rw [Nat.mul_comm]
    exact Nat.mul_le_mul_right _ (Nat.div_le_self _ _)
def spLaw (K : PySem.W.Frag) : Sp := fun vs H Q _ => ∃ (a : Addr) (ns : List Int), vs = [.ref a] ∧ SqL K H a (ns.map V.int) ∧ ns.length ≤ 63 ∧ ∀ H', Q (.bl true) H'
section
variable {P : Program} {w : World} {K : PySem.W.Frag} {mg : Str → Option Value} {base : Heap}
/-- what is left of a turn, with no draw: the deeds done, looked at, undone -/
theorem law_turn {X : Cx} (c : DCtx X ["_law_script", "_law_box_here", "_law_path_here", "_law_by", "_law_deeds", "_law_here", "_law_deed", "_law_found", "_law_back", "_law_k"] (defScope s73) 11)
    (g2 : KnX X "_law_fr" ["_law_top", "_law_bottom"] (spP X.K PL_fr) 1) (g4 : KnX X "_law_units_right" ["_law_path_here"] (spP X.K PL_units_right) 9) (g6 : KnX X "_law_done" ["_law_path_here", "_law_deed", "_law_by"] (spP X.K PL_done) 7)
    (g7 : KnX X "_law_deed_right" ["_law_path_here", "_law_found", "_law_deed", "_law_by"] (spP X.K PL_deed_right) 11) {p : Path} {v : Pt} {ks : List Int} {D M N : Nat} (hp : Gp D M p) (hv : CdP D N v) (d0 : 0 < D) (hd : D < 2 ^ 100) (hm : M + 7 * N < 2 ^ 100) (hl : ks.length ≤ 6) (hks : ∀ k ∈ ks, k = 0 ∨ k = 1 ∨ k = 2) {body : List Stmt} {tg it : Expr} {ps : Pos} (hbody : (defBody s73).headD (.Pass ⟨0, 0, 0, 0⟩) = .For tg it body [] ps) :
    PSD X (body.drop 4) [none, none, some (pathD p), some (pt v), some (.list (ks.map .int)), some (pathD p), none, none, none, none] (fun ρ' => ρ'.length = 10) (fun _ => False) := by
  have cc := c.toCtx
  injection hbody with _ _ hb _ _
  subst hb
  have hvs : SzP 1000 v := ⟨(hv.x.sz d0 hd (show N < 2 ^ 100 by omega)).mono (by decide), (hv.y.sz d0 hd (show N < 2 ^ 100 by omega)).mono (by decide)⟩
  have ok : ∀ i, i ≤ ks.length → Ok (st p v ks i) := fun i hi => by
    have h1 : i * N ≤ 7 * N := Nat.mul_le_mul_right _ (by omega)
    exact (st_gp hp hv d0 hd ks i (by omega) hi).Ok d0 hd (by omega)
  have hlen : (ks.map PyData.int).length = ks.length := List.length_map ..
  refine psd_for c (fun d ρ => ρ.set 6 (some d)) [6] (fun i ρ => ∃ x6 x7, ρ = [none, none, some (pathD p), some (pt v), some (.list (ks.map .int)), some (pathD (st p v ks i)), x6, x7, none, none]) (pdi_list (pd_var cc 4)) (pg_of c 6) (fun d _ => gd_name (by decide)) ⟨none, none, rfl⟩ ?_ ?_
  · rintro i d _ hdi ⟨x6, x7, rfl⟩
    have hi : i < ks.length := by
      have := (List.getElem?_eq_some_iff.mp hdi).1
      rwa [List.length_map] at this
    have hki : ks[i]? = some ks[i] := List.getElem?_eq_getElem hi
    generalize ks[i] = k at hki
    rw [List.getElem?_map, hki] at hdi
    cases hdi
    have hk := hks k (List.mem_of_getElem? hki)
    have o1 := ok i (Nat.le_of_lt hi)
    have o2 := ok (i + 1) hi
    rw [st_succ hki] at o2
    refine psd_set c 7 (pd_call cc g6 (pda_cons (pd_var cc 5) (pda_cons (pd_var cc 6) (pda_cons (pd_var cc 3) pda_nil))) ⟨_, k, v, rfl, o1, hvs, rfl⟩) ?_
    refine psd_skip (pdt_w (pw_orF (pt_nT (pdt_val (pd_call cc g7 (pda_cons (pd_var cc 5) (pda_cons (pd_var cc 7) (pda_cons (pd_var cc 6) (pda_cons (pd_var cc 3) pda_nil)))) ⟨_, k, v, rfl, o1, o2, hk, hvs, rfl⟩))) (pdw_or1 (pt_nT (pdt_val (pd_call cc g4 (pda_cons (pd_var cc 7) pda_nil) ⟨_, rfl, o2, rfl⟩)))))) ?_
    refine psd_set c 5 (pd_var cc 7) (psd_nil ⟨some (.int k), some (pathD (done (st p v ks i) k v)), ?_⟩)
    rw [st_succ hki]
    rfl
  · rintro _ ⟨x6, x7, rfl⟩
    rw [hlen]
    refine psd_set c 8 (d := pt (negP v)) (PD.eq (pd_tup (pda_cons (pd_call cc g2 (pda_cons (pd_neg (pd_ixT (pd_ixT (pd_var cc 3) pd_int) pd_int)) (pda_cons (pd_ixT (pd_ixT (pd_var cc 3) pd_int) pd_int) pda_nil)) ⟨_, _, rfl, den_p _, lt_pow hvs.x.dn (by decide), rfl⟩)
      (pda_cons (pd_call cc g2 (pda_cons (pd_neg (pd_ixT (pd_ixT (pd_var cc 3) pd_int) pd_int)) (pda_cons (pd_ixT (pd_ixT (pd_var cc 3) pd_int) pd_int) pda_nil)) ⟨_, _, rfl, den_p _, lt_pow hvs.y.dn (by decide), rfl⟩) pda_nil))) ?_) ?_
    · rw [neg_di, neg_di]
      rfl
    have hvn : SzP 1000 (negP v) := ⟨hvs.x.neg, hvs.y.neg⟩
    refine psd_for c (fun d ρ => ρ.set 6 (some d)) [6] (fun i ρ => ∃ x6, ρ = [none, none, some (pathD p), some (pt v), some (.list (ks.map .int)), some (pathD (st p v ks (ks.length - i))), x6, x7, some (pt (negP v)), none]) (pdi_list (pd_revL (pd_var cc 4))) (pg_of c 6) (fun d _ => gd_name (by decide)) ⟨x6, rfl⟩ ?_ ?_
    · rintro i d _ hdi ⟨y6, rfl⟩
      have hi : i < ks.length := by
        have := (List.getElem?_eq_some_iff.mp hdi).1
        rwa [List.length_reverse, List.length_map] at this
      rw [List.getElem?_reverse (by rw [hlen]; exact hi), hlen] at hdi
      have hki : ks[ks.length - 1 - i]? = some (ks[ks.length - 1 - i]'(by omega)) := List.getElem?_eq_getElem (by omega)
      generalize ks[ks.length - 1 - i]'(by omega) = k at hki
      rw [List.getElem?_map, hki] at hdi
      cases hdi
      have hk := hks k (List.mem_of_getElem? hki)
      have o1 := ok (ks.length - i) (by omega)
      have e1 : st p v ks (ks.length - i) = done (st p v ks (ks.length - (i + 1))) k v := by
        have := st_succ (p := p) (v := v) hki
        rw [show ks.length - 1 - i + 1 = ks.length - i by omega, show ks.length - 1 - i = ks.length - (i + 1) by omega] at this
        exact this
      refine psd_set c 5 (pd_call cc g6 (pda_cons (pd_var cc 5) (pda_cons (pd_var cc 6) (pda_cons (pd_var cc 8) pda_nil))) ⟨_, k, negP v, rfl, o1, hvn, rfl⟩) (psd_nil ⟨some (.int k), ?_⟩)
      rw [e1, done_done hk]
      rfl
    · rintro _ ⟨y6, rfl⟩
      rw [List.length_reverse, hlen, Nat.sub_self]
      refine psd_skip (pdt_neF cc (pd_var cc 5) (pd_var cc 2) (eqv_rf _ (pl_path p)) ((sh_path p).ok (by decide)) ((sh_path p).ok (by decide))) (psd_nil rfl)
theorem env_none {K : PySem.W.Frag} {H : Hp} {σ : L2.St} (n : Nat) (h : σ.length = n) : EnvD K H σ (List.replicate n none) := ⟨by simp [h], fun i d hi => by
  rw [List.getElem?_replicate] at hi
  split at hi <;> cases hi⟩
theorem tp_none (n : Nat) : TP (List.replicate n none) := fun i d hi => by
  rw [List.getElem?_replicate] at hi
  split at hi <;> cases hi
theorem def_rawF {x : Str} {st : Stmt} {N ps : List Str} {k : Nat} {sp : Sp} {fl : Addr} {fdl : FuncData} (F : FunD K x x (defArgs st) (defBody st) (defScope st) [] [] fl fdl) (S : FnScope N ps (defScope st)) (hl : ∀ vs H Q E, sp vs H Q E → vs.length = ps.length)
    (hb : ∀ X : Cx, X.prog = P → X.w = w → X.K = K → X.mg = mg → X.base = base → DCtx X N (defScope st) k → (∃ q n f cd, X.env = envOfC q (defScope st) n f cd) → ∀ vs H Q E, sp vs H Q E → WSs X (defBody st) { nx := fun _ H' => Q .non H', rt := Q } (start N vs) H) :
    FnOk P w K mg base CX0 (k + 1) fl fdl ps sp := by
  refine F.ok S hl fun cdv A outer s H vs Q E hr hsp => ⟨_, PSs.nox pss_W, ?_⟩
  exact hb _ rfl rfl rfl rfl rfl ⟨⟨rfl, rfl, rfl, hr, S.nd⟩, fun _ => rfl, PassesOwn.never, S.kind⟩ ⟨_, _, _, _, rfl⟩ vs H Q E hsp
theorem ok_law {fl : Addr} {fdl : FuncData} (A : FunD K "law" "law" (defArgs s73) (defBody s73) (defScope s73) [] [] fl fdl) (f : Fr mg) (g0 : Kn P w K mg base "_law_boxes" ["_law_script", "_law_most"] (spBoxes K) 2) (g1 : Kn P w K mg base "_law_take" ["_law_box_here", "_law_many"] (spBx K 1 PR_take PO_take) 1) (g2 : Kn P w K mg base "_law_fr" ["_law_top", "_law_bottom"] (spP K PL_fr) 1)
    (g3 : Kn P w K mg base "_law_path" ["_law_box_here"] (spBx K 131 PR_path PO_path) 6) (g4 : Kn P w K mg base "_law_units_right" ["_law_path_here"] (spP K PL_units_right) 9) (g5 : Kn P w K mg base "_law_parts_right" ["_law_box_here", "_law_path_here"] (spBx K 1 PR_parts PO_parts) 10)
    (g6 : Kn P w K mg base "_law_done" ["_law_path_here", "_law_deed", "_law_by"] (spP K PL_done) 7) (g7 : Kn P w K mg base "_law_deed_right" ["_law_path_here", "_law_found", "_law_deed", "_law_by"] (spP K PL_deed_right) 11) :
    FnOk P w K mg base CX0 12 fl fdl ["_law_script"] (spLaw K) := by
  refine def_rawF A sc73 (by rintro _ H Q E ⟨a, ns, rfl, _⟩; rfl) ?_
  rintro X rfl rfl rfl rfl rfl c he _ H Q E ⟨a, ns, rfl, hq, hn, q⟩
  have cc := c.toCtx
  have hs1 : (L2.start ["_law_script", "_law_box_here", "_law_path_here", "_law_by", "_law_deeds", "_law_here", "_law_deed", "_law_found", "_law_back", "_law_k"] [.ref a])[0]? = some (some (.ref a)) := rfl
  have hs5 : (L2.start ["_law_script", "_law_box_here", "_law_path_here", "_law_by", "_law_deeds", "_law_here", "_law_deed", "_law_found", "_law_back", "_law_k"] [.ref a]).length = 10 := rfl
  generalize L2.start ["_law_script", "_law_box_here", "_law_path_here", "_law_by", "_law_deeds", "_law_here", "_law_deed", "_law_found", "_law_back", "_law_k"] [.ref a] = σ at hs1 hs5
  -- one turn
  have turn : ∀ (body : List Stmt) (tg it : Expr) (ps : Pos), (defBody s73).headD (.Pass ⟨0, 0, 0, 0⟩) = .For tg it body [] ps → ∀ σ H b (D : Ends), σ.length = 10 → σ[1]? = some (some (.ref b)) → Bx H b 0 → (∀ σ' H', SBx b H H' → σ'.length = 10 → D.nx σ' H') → WSs X body D σ H := by
    intro body tg it ps hbody σ H b D hlen hslot hbx nx
    have hbody' := hbody
    injection hbody' with _ _ hb _ _
    have B0 : BV X.K H H σ [none, none, none, none, none, none, none, none, none, none] 1 b 0 none := ⟨SBx.refl, env_none 10 hlen, tp_none 10, hslot, hbx, trivial⟩
    have main : BW X D H b body [none, none, none, none, none, none, none, none, none, none] 1 none 0 := by
      subst hb
      -- the path
      refine bw_set c 2 (m1 := 131) (P := fun d => ∃ p, d = pathD p ∧ Gp 11050 3000000 p) ?_ ?_ apart_none
      · exact be_weak (be_draw cc g3 bea_nil (fun ds z => z)) (Nat.le_refl _) fun d ⟨_, _, p, e, g⟩ => ⟨p, e, g⟩
      rintro _ ⟨p, rfl, hp⟩
      have okp : Ok p := hp.Ok (by decide) (by decide) (by decide)
      have hp9 : ∀ n : Nat, n < 2 ^ 5 → ((n : Int)).natAbs < 2 ^ 9000 := fun n hn => Nat.lt_of_lt_of_le (show (n : Int).natAbs < 2 ^ 5 by omega) (Nat.pow_le_pow_right (by decide) (by decide))
      -- by
      refine bw_set c 3 (m1 := 3) (P := fun d => ∃ v, d = pt v ∧ CdP 420 20580 v) ?_ ?_ apart_none
      · refine be_weak (be_tup (bea_cons (be_call cc g2 (bea_cons (be_op (P := fun d => ∃ n : Int, d = .int n ∧ n.natAbs ≤ 49) op_sub (be_takeJ cc 99 g1) (be_pd pd_int) ?_) (bea_cons (be_op (P := fun d => ∃ n : Nat, d = .int (n : Int) ∧ 0 < n ∧ n ≤ 7) op_add (be_pd pd_int) (be_takeJ cc 7 g1) ?_) bea_nil)) ?_ (P := fun d => ∃ x, d = fr x ∧ Cd 420 20580 x))
          (bea_cons (be_call cc g2 (bea_cons (be_op (P := fun d => ∃ n : Int, d = .int n ∧ n.natAbs ≤ 49) op_sub (be_takeJ cc 99 g1) (be_pd pd_int) ?_) (bea_cons (be_pd pd_int) bea_nil)) ?_ (P := fun d => ∃ x, d = fr x ∧ Cd 420 20580 x)) bea_nil)) (Nat.le_of_ble_eq_true rfl) ?_) (Nat.le_of_ble_eq_true rfl) ?_
        · rintro _ _ ⟨r, rfl, hr⟩ rfl
          exact ⟨_, ⟨(r : Int) - 49, rfl, by omega⟩, rfl, rd_I0 fun _ => .int _⟩
        · rintro _ _ rfl ⟨r, rfl, hr⟩
          refine ⟨_, ⟨1 + r, rfl, by omega, by omega⟩, rfl, ?_⟩
          rw [Int.natCast_add]
          exact rd_I0 fun _ => .int _
        · rintro _ ⟨_, _, rfl, ⟨n, rfl, hn⟩, _, _, rfl, ⟨d, rfl, hd0, hd7⟩, rfl⟩
          exact ⟨_, ⟨_, _, rfl, by omega, hp9 d (by omega), rfl⟩, ⟨_, rfl, (di_420 hd0 hd7 hn).mono (by decide)⟩, rfl⟩
        · rintro _ _ ⟨r, rfl, hr⟩ rfl
          exact ⟨_, ⟨(r : Int) - 49, rfl, by omega⟩, rfl, rd_I0 fun _ => .int _⟩
        · rintro _ ⟨_, _, rfl, ⟨n, rfl, hn⟩, _, _, rfl, rfl, rfl⟩
          exact ⟨_, ⟨_, _, rfl, by decide, hp9 1 (by decide), rfl⟩, ⟨_, rfl, (di_420 (d := 1) (by decide) (by decide) hn).mono (by decide)⟩, rfl⟩
        · rintro _ ⟨_, _, rfl, _, _, _, rfl, _, rfl⟩
          exact Nat.le_of_ble_eq_true rfl
        · rintro _ ⟨_, rfl, _, _, rfl, ⟨x, rfl, hx⟩, _, _, rfl, ⟨y, rfl, hy⟩, rfl⟩
          exact ⟨(x, y), rfl, hx, hy⟩
      rintro _ ⟨v, rfl, hv⟩
      have gp : Gp 4641000 1260000000 p := hp.scale 420
      have gv : CdP 4641000 227409000 v := ⟨hv.x.scale 11050, hv.y.scale 11050⟩
      -- the deeds
      intro σ1 H1 B
      refine ws_cons (ws_of (ps_par (i := 4) (j := 5) c.calm c.nd' (by rw [c.hN]; rfl) (by rw [c.hN]; rfl) (by decide) (c.lc rfl) (c.lc rfl) (pa_cons (pe_lc (own := [("_law_k", 9)]) c.calm c.nd' (pi_range1 (cc.gl rfl) f.b_range (pa_cons pe_W pa_nil)) (by rw [c.hN, c.hs]; exact blkOk_by (by decide +kernel))
        (fun s H C cl fp => pg_blk (InBlk.ctx cc ⟨s, H, C, cl, fp, rfl⟩) 9) (fun s H C cl fp => pts_WB ⟨s, H, C, cl, fp, rfl⟩) (fun s H C cl fp => pe_WB ⟨s, H, C, cl, fp, rfl⟩) (by intro _; rfl)) (pa_cons pe_W pa_nil)) (by obtain ⟨q, n, f, cd, he⟩ := he; rw [he]; rfl)) ?_)
      have h10 : σ1.length = 10 := B.env.len
      refine (be_addl 2 (be_takeJ cc 5 g1) : BE X _ _ 1 1 _) σ1 H1 b _ (by decide) B.env B.tp B.slot B.bx _ fun v1 H2 d1 hd1 _ hv1 s2 hb2 => ?_
      obtain ⟨r, rfl, hr2, hr7⟩ := hd1
      cases hv1
      refine ⟨_, rfl, by omega, by omega, fun Da nD => ?_⟩
      rw [Int.toNat_natCast]
      have hDb : Da ≠ b := fun z => by
        obtain ⟨xs, e⟩ := hb2.some
        rw [z, e] at nD
        cases nD
      refine lc_range (fun i H' => SBx b H2 H' ∧ Bx H' b (135 + i) ∧ ∃ ks : List Int, H' Da = some (.lst (ks.map V.int)) ∧ ks.length = i ∧ ∀ k ∈ ks, k = 0 ∨ k = 1 ∨ k = 2) ⟨SBx.of_same (same_upd nD), bx_upd hb2 hDb.symm, [], upd_same, rfl, nofun⟩ ?_ ?_
      · rintro i H3 hi ⟨s3, hb3, ks, hD, hlen, hks⟩
        refine ⟨by rw [wipe_set (by decide), wipe_wipe], fun X2 hX2 => wts_yes ?_⟩
        intro X3 hX3
        have c3 := hX3.ctx cc
        refine (be_takeJ c3 3 (g1.blkB hX3.same) : BE X3 _ (List.replicate 10 none) 1 1 _) _ H3 b (135 + i) (by omega) (env_none 10 ?_) (tp_none 10) ?_ hb3 _ fun v4 H4 d4 hd4 _ hv4 s4 hb4 => ?_
        · show (List.set (List.set σ1 9 none) 9 _).length = 10
          simp only [List.length_set]
          exact h10
        · show (List.set (List.set σ1 9 none) 9 _)[1]? = _
          rw [List.getElem?_set_ne (by decide), List.getElem?_set_ne (by decide)]
          exact B.slot
        · obtain ⟨q, rfl, hq⟩ := hd4
          cases hv4
          have hD4 := s4 Da _ hDb hD
          refine ⟨ks.map V.int, hD4, by rw [List.length_map, hlen]; exact Nat.lt_of_lt_of_le (show i < 100000 by omega) (by decide), fun a o na e => ?_, bx_upd hb4 hDb.symm, ks ++ [(q : Int)], by rw [List.map_append]; exact upd_same, by rw [List.length_append, hlen]; rfl, fun k hk => ?_⟩
          · rw [upd_ne (ne_of_none e nD)]
            exact s4 a o na (s3 a o na e)
          · rcases List.mem_append.mp hk with h | h
            · exact hks k h
            · have e : k = (q : Int) := by simpa using h
              omega
      · rintro H3 ⟨s3, hb3, ks, hD, hlen, hks⟩
        have B3 := B.mono (s2.trans s3) hb3
        refine (pd_var cc 2 : PD X _ _ (pathD p)) σ1 H3 B3.env _ fun w H4 s4 hw => ⟨_, _, rfl, ?_⟩
        have B4 := B3.mono (SBx.of_same s4) (hb3.same s4)
        have n0 : H Da = none := by
          cases e : H Da with
          | none => rfl
          | some u =>
            have := s2 _ _ hDb (B.fr Da u hDb e)
            rw [nD] at this
            cases this
        have E4 : EnvD X.K H4 (σ1.set 4 (some (.ref Da))) [none, none, some (pathD p), some (pt v), none, none, none, none, none, none] := ⟨by simp [h10], fun r dd h => by
          by_cases hr : 4 = r
          · subst hr
            cases h
          · rw [List.getElem?_set_ne hr]
            exact B4.env.get r dd h⟩
        have B5 : BV X.K H H4 (σ1.set 4 (some (.ref Da))) [none, none, some (pathD p), some (pt v), none, none, none, none, none, none] 1 b (135 + r) (some (4, ks.map .int)) :=
          ⟨B4.fr, E4, B4.tp, by rw [List.getElem?_set_ne (by decide)]; exact B4.slot, B4.bx, ⟨Da, _, List.getElem?_set_self (by omega), n0, hDb, s4 _ _ hD, dqa_of_ints ks, tupdA_all.mpr fun d hd => by
            obtain ⟨k, _, rfl⟩ := List.mem_map.mp hd
            rfl⟩⟩
        refine (bw_skip (m1 := 1) ?_ (bw_pureO (law_turn c g2 g4 g6 g7 gp gv (by decide) (by decide) (by decide) (by omega) hks rfl) (fun _ z => z) nx)) _ H4 (B5.set hw (tupd_path p) (by decide) (fun x z => by cases z; exact (by decide : (5 : Nat) ≠ 4)))
        intro σ5 H5 E5 T5 hs5 hb5 Q5 q5
        refine ⟨_, (pw_W).pt, ⟨_, pw_or pt_W pw_W, ?_⟩⟩
        refine (pt_nT (pdt_val (pd_call cc g4 (pda_cons (pd_var cc 2) pda_nil) ⟨_, rfl, okp, rfl⟩)) : PDT X _ _ false) σ5 H5 E5 _ fun H6 s6 => ?_
        rw [if_neg (by decide)]
        refine ⟨_, pw_or1 pt_W, ⟨_, pt_not pt_W, ⟨_, pt_val pe_W (by intro _; rfl), ?_⟩⟩⟩
        refine (be_draw cc g5 (bea_cons (be_pd (pd_var cc 2) (tupd_path p)) bea_nil) (fun ds ⟨d, r, e1, e2, e3⟩ => ⟨p, by rw [e1, e2, e3], okp⟩) : BE X _ _ 1 _ _) σ5 H6 b _ (by omega) (E5.mono s6) T5 hs5 (hb5.same s6) _ fun v7 H7 d7 hd7 _ hv7 s7 hb7 => ?_
        obtain ⟨_, _, hd7⟩ := hd7
        have e7 : d7 = .bool true := hd7
        subst e7
        cases hv7
        exact ⟨true, rfl, q5 H7 ((SBx.of_same s6).trans s7) (hb7.mono (by omega))⟩
    exact main σ H B0
  -- the loop
  refine ws_cons (ws_of (ps_for c.never c.calm (pi_list pe_W) (pg_of c 1 (hx := Or.inr rfl)) pss_W) ?_)
  refine we_call cc g0 ⟨_, pa_cons pe_W (pa_cons pe_W pa_nil), we_var cc 0 hs1 (we_int ⟨a, ns, rfl, hq, hn, fun l bs H1 hB => ?_⟩)⟩
  refine ⟨l, rfl, ⟨_, SqL.of hB.lst⟩, ?_⟩
  refine ⟨fun i m σ' H' => i ≤ bs.length ∧ m = bs.length - i ∧ H' l = some (.lst (bs.map V.ref)) ∧ (∀ j b, i ≤ j → bs[j]? = some b → Bx H' b 0) ∧ σ'.length = 10, ⟨bs.length, Nat.zero_le _, rfl, hB.lst, fun j b _ hj => (hB.box b (List.mem_of_getElem? hj)).2.2, hs5⟩, fun i m σ' H' hW => ?_⟩
  obtain ⟨hi1, rfl, hl, hb, h10⟩ := hW
  by_cases hlt : i < bs.length
  · have hbi : bs[i]? = some bs[i] := List.getElem?_eq_getElem hlt
    have hnd := hB.nd
    have hne : ∀ j b, bs[j]? = some b → j ≠ i → b ≠ bs[i] := fun j b hj hji z => by
      obtain ⟨hjl, ej⟩ := List.getElem?_eq_some_iff.mp hj
      rw [← ej] at z
      rcases Nat.lt_or_gt_of_ne hji with h | h
      · exact List.pairwise_iff_getElem.mp hnd j i hjl hlt h z
      · exact List.pairwise_iff_getElem.mp hnd i j hlt hjl h z.symm
    have hin : bs[i] ≠ l := (hB.box _ (List.getElem_mem hlt)).2.1
    generalize bs[i] = b at hbi hne hin
    have hrf : (bs.map V.ref)[i]? = some (.ref b) := by rw [List.getElem?_map, hbi]; rfl
    refine .inr ⟨⟨_, _, SqL.of hl, hrf⟩, fun σ' H' => H' l = some (.lst (bs.map V.ref)) ∧ (∀ j b, i + 1 ≤ j → bs[j]? = some b → Bx H' b 0) ∧ σ'.length = 10, fun σ2 H2 z => ⟨bs.length - (i + 1), by omega, hlt, rfl, z⟩, ?_⟩
    rintro x H2 ⟨e2, hx⟩
    have ex := hx _ (SqL.of hl)
    rw [hrf] at ex
    cases ex
    rw [e2]
    refine turn _ _ _ _ rfl _ H' b _ (by rw [List.length_set]; exact h10) (List.getElem?_set_self (by omega)) (hb i b (Nat.le_refl _) hbi) fun σ2 H2 s hl2 => ⟨s l _ hin.symm hl, fun j b' hj hjb => ?_, hl2⟩
    obtain ⟨x1, x2, x3, e, r⟩ := hb j b' (by omega) hjb
    exact ⟨x1, x2, x3, s _ _ (hne j b' hjb (by omega)) e, r⟩
  · have e : i = bs.length := by omega
    subst e
    exact .inl ⟨⟨_, SqL.of hl, by rw [List.length_map]; exact Nat.le_refl _⟩, ws_cons (ws_of (ps_ret pe_bl) (q H'))⟩
end
end SC

set_option maxHeartbeats 0
/-! the end: the head, its facts, the law -/
namespace SC
open PySem PySem.Spec PyProof.Rows L2 RZ
def mkD (x : Str) (s : Stmt) : He.DefD := ⟨(x, none), x, x, defArgs s, defBody s, defScope s, [], []⟩
def fn0 : List He.DefD := [mkD "is_number" s2, mkD "divisor_of" s3, mkD "is_fraction" s4, mkD "fraction" s5, mkD "added" s6, mkD "taken" s7, mkD "times" s8, mkD "over" s9, mkD "compared" s10, mkD "whole_root" s11, mkD "root_of" s12, mkD "plus" s14, mkD "minus" s15, mkD "dot" s16, mkD "cross" s17, mkD "left_of" s18, mkD "length_of" s19, mkD "unit_of" s20, mkD "is_point" s26, mkD "opposite" s27]
def fn1 : List He.DefD := [mkD "is_side" s28, mkD "is_arc" s29, mkD "is_piece" s30, mkD "to_of" s31, mkD "is_path" s32, mkD "ends_of" s33, mkD "is_closed" s34, mkD "begin_of" s35, mkD "radius_of" s36, mkD "heading_at" s37, mkD "headings" s38, mkD "corner_word" s39, mkD "corners" s40, mkD "other_turn" s41, mkD "turned_about" s42, mkD "mirrored_point" s43, mkD "mirrored_piece" s44, mkD "mirrored" s45, mkD "moved_piece" s46, mkD "moved" s47]
def fn2 : List He.DefD := [mkD "_law_box" s49, mkD "_law_take" s50, mkD "_law_boxes" s51, mkD "_law_fr" s52, mkD "_law_add" s53, mkD "_law_mul" s54, mkD "_law_on" s55, mkD "_law_off" s56, mkD "_law_dot" s57, mkD "_law_cross" s58, mkD "_law_left" s59, mkD "_law_unit" s60, mkD "_law_arc" s61, mkD "_law_path" s62, mkD "_law_path_of" s63, mkD "_law_to" s64, mkD "_law_begins" s65, mkD "_law_about" s66, mkD "_law_units_right" s67, mkD "_law_done" s68]
def fn3 : List He.DefD := [mkD "_law_point_done" s69, mkD "_law_words" s70, mkD "_law_deed_right" s71, mkD "_law_parts_right" s72, mkD "law" s73]
def fn : List He.DefD := fn0 ++ fn1 ++ fn2 ++ fn3
def fa0 : List He.Fa := [.glo "is_number", .glo "divisor_of", .glo "is_fraction", .glo "fraction", .glo "added", .glo "taken", .glo "times", .glo "over", .glo "compared", .glo "whole_root", .glo "root_of", .glo "plus", .glo "minus", .glo "dot", .glo "cross", .glo "left_of", .glo "length_of", .glo "unit_of", .glo "is_point", .glo "opposite"]
def fa1 : List He.Fa := [.glo "is_side", .glo "is_arc", .glo "is_piece", .glo "to_of", .glo "is_path", .glo "ends_of", .glo "is_closed", .glo "begin_of", .glo "radius_of", .glo "heading_at", .glo "headings", .glo "corner_word", .glo "corners", .glo "other_turn", .glo "turned_about", .glo "mirrored_point", .glo "mirrored_piece", .glo "mirrored", .glo "moved_piece", .glo "moved"]
def fa2 : List He.Fa := [.glo "_law_box", .glo "_law_take", .glo "_law_boxes", .glo "_law_fr", .glo "_law_add", .glo "_law_mul", .glo "_law_on", .glo "_law_off", .glo "_law_dot", .glo "_law_cross", .glo "_law_left", .glo "_law_unit", .glo "_law_arc", .glo "_law_path", .glo "_law_path_of", .glo "_law_to", .glo "_law_begins", .glo "_law_about", .glo "_law_units_right", .glo "_law_done"]
def fa3 : List He.Fa := [.glo "_law_point_done", .glo "_law_words", .glo "_law_deed_right", .glo "_law_parts_right", .glo "law", .free "isinstance", .free "int", .free "bool", .free "tuple", .free "str", .free "len", .free "all", .free "any", .free "abs", .free "range", .free "enumerate", .free "zip", .free "list", .free "max", .free "sorted"]
def fa4 : List He.Fa := [.free "divmod", .str "SIDE" "side", .str "ARC" "arc", .glo "NOUGHT_fractions", .glo "NOUGHT_paths", .glo "TURNS"]
def fa : List He.Fa := fa0 ++ fa1 ++ fa2 ++ fa3 ++ fa4
def ex (K : PySem.W.Frag) : Bool := He.tupB K "NOUGHT_fractions" [.int 0, .int 1] && (He.tupB K "NOUGHT_paths" [.int 0, .int 1] && He.tupB K "TURNS" [.str "left", .str "right"])
abbrev AlM : Type := He.AlD × Bool
def obM (g : Addr → Option Obj) : AlM := (He.obsD fa fn (He.frG g (He.asD g 4)), ex (He.frG g (He.asD g 4)))
def hk : PySem.W.Hook where
  α := AlM
  obs := fun s => obM s.heap.get?
  val := fun _ => (He.valD fn, true)
  says := fun _ h => ∃ K : PySem.W.Frag, K.In h ∧ He.SaysD fa fn K ∧ ex K = true
  of := fun _ _ e => ⟨_, He.frG_in, congrArg (fun z : AlM => z.1) e, congrArg (fun z : AlM => z.2) e⟩
  keeps := fun _ _ _ ⟨K, hK, c⟩ k => ⟨K, PySem.W.Frag.In.keeps hK k, c⟩
def ob (s : PySem.W.SharedT) : AlM := obM (HandSHeadRun.getT s)
theorem ob_eq (s : PySem.W.SharedT) : ob s = hk.obs s.abs := by
  have e : HandSHeadRun.getT s = s.abs.heap.get? := funext (HandSHeadRun.getT_eq s)
  show obM (HandSHeadRun.getT s) = obM s.abs.heap.get?
  rw [e]
abbrev R : PySem.W.OpenRow := PySem.W.OpenLaw.row PySem.Challenge.rw_sidecut_k15_whole_paths_put_otherwise
def names0 : List PySem.Str := ["is_number", "divisor_of", "is_fraction", "fraction", "added", "taken", "times", "over", "compared", "whole_root", "root_of", "plus", "minus", "dot", "cross", "left_of", "length_of", "unit_of", "is_point", "opposite"]
def names1 : List PySem.Str := ["is_side", "is_arc", "is_piece", "to_of", "is_path", "ends_of", "is_closed", "begin_of", "radius_of", "heading_at", "headings", "corner_word", "corners", "other_turn", "turned_about", "mirrored_point", "mirrored_piece", "mirrored", "moved_piece", "moved"]
def names2 : List PySem.Str := ["_law_box", "_law_take", "_law_boxes", "_law_fr", "_law_add", "_law_mul", "_law_on", "_law_off", "_law_dot", "_law_cross", "_law_left", "_law_unit", "_law_arc", "_law_path", "_law_path_of", "_law_to", "_law_begins", "_law_about", "_law_units_right", "_law_done"]
def names3 : List PySem.Str := ["_law_point_done", "_law_words", "_law_deed_right", "_law_parts_right", "ARC", "NOUGHT_fractions", "NOUGHT_paths", "SIDE", "TURNS"]
def names : List PySem.Str := names0 ++ names1 ++ names2 ++ names3
theorem run (w : World) : HandSHeadRun.RunEq R (PySem.W.view R.prog [73]) hk ob 3000 names w := by
  intro os
  kernel_rfl
theorem at_mk {K : PySem.W.Frag} {h : Heap} {mg : Str → Option Value} (X : K.In h) (G : h.Ns mainGlobals mg) (c : He.SaysD fa fn K) (i : Nat) {x : Str} {s : Stmt} (h1 : fn[i]? = some (mkD x s)) (h2 : fa[i]? = some (.glo x)) : At K mg x s := by
  obtain ⟨fd, F⟩ := c.def_ i h1
  exact ⟨_, fd, F, He.glo_ok X G (c.fact i h2)⟩
theorem cst_str {K : PySem.W.Frag} {h : Heap} {mg : Str → Option Value} (X : K.In h) (G : h.Ns mainGlobals mg) (c : He.SaysD fa fn K) (i : Nat) {x z : Str} (h2 : fa[i]? = some (.str x z)) : CstK K mg x (.str z) := by
  obtain ⟨t, e⟩ := He.str_ok X G (c.fact i h2)
  exact ⟨_, .str z, e, ⟨t, rfl⟩, fun _ => .str z⟩
theorem cst_tup {K : PySem.W.Frag} {h : Heap} {mg : Str → Option Value} (X : K.In h) (G : h.Ns mainGlobals mg) (c : He.SaysD fa fn K) (i : Nat) {x : Str} {vs : List He.Dv} {ds : List PyData} (h2 : fa[i]? = some (.glo x)) (ht : He.tupB K x vs = true) (hd : ∀ H, DqA K H (vs.map (He.Dv.v K)) ds) : CstK K mg x (.tuple ds) :=
  ⟨_, .ref (He.ga K x), He.glo_ok X G (c.fact i h2), rfl, fun H => .tup (He.tupB_ok ht H) (hd H)⟩
theorem facts {P : Program} {w : World} {K : PySem.W.Frag} {h : Heap} {mg : Str → Option Value} {f : Addr} (X : K.In h) (G : h.Ns mainGlobals mg) (hfa : mg ("law" : Str) = some (.ref f)) (c : He.SaysD fa fn K) (hx : ex K = true) :
    ∃ fd : FuncData, (∀ (s : Shared) (v : Value), BindsTo s fd ⟨[v], []⟩ [("_law_script", v)]) ∧ ∀ base : Heap, K.In base → base.Ns mainGlobals mg → FnOk P w K mg base CX0 12 f fd ["_law_script"] (spLaw K) := by
  obtain ⟨fd, FL⟩ := c.def_ 64 (d := mkD "law" s73) rfl
  have e := hfa.symm.trans (He.glo_ok X G (c.fact 64 (f := .glo "law") rfl))
  cases e
  have b := FunD.bindsA (ps := ["_law_script"]) FL fun _ _ _ _ _ _ us hl => match us, hl with | [_], _ => rfl
  refine ⟨fd, fun s v => b s [v] rfl, fun base _ _ => ?_⟩
  obtain ⟨hx1, hx2⟩ := Bool.and_eq_true_iff.mp hx
  obtain ⟨hx2, hx3⟩ := Bool.and_eq_true_iff.mp hx2
  have F : Fr mg := ⟨He.free_ok X G (c.fact 65 (f := .free "isinstance") rfl), He.free_ok X G (c.fact 66 (f := .free "int") rfl), He.free_ok X G (c.fact 67 (f := .free "bool") rfl), He.free_ok X G (c.fact 68 (f := .free "tuple") rfl), He.free_ok X G (c.fact 69 (f := .free "str") rfl), He.free_ok X G (c.fact 70 (f := .free "len") rfl), He.free_ok X G (c.fact 71 (f := .free "all") rfl), He.free_ok X G (c.fact 72 (f := .free "any") rfl), He.free_ok X G (c.fact 73 (f := .free "abs") rfl), He.free_ok X G (c.fact 74 (f := .free "range") rfl), He.free_ok X G (c.fact 75 (f := .free "enumerate") rfl), He.free_ok X G (c.fact 76 (f := .free "zip") rfl), He.free_ok X G (c.fact 77 (f := .free "list") rfl), He.free_ok X G (c.fact 78 (f := .free "max") rfl), He.free_ok X G (c.fact 79 (f := .free "sorted") rfl), He.free_ok X G (c.fact 80 (f := .free "divmod") rfl)⟩
  have CF : CstK K mg "NOUGHT_fractions" (fr 0) := cst_tup X G c 83 rfl hx1 fun _ => .cons (.int 0) (.cons (.int 1) .nil)
  have CP : CN K mg := cst_tup X G c 84 rfl hx2 fun _ => .cons (.int 0) (.cons (.int 1) .nil)
  have CT : CTurns K mg := cst_tup X G c 85 rfl hx3 fun _ => .cons (.str "left") (.cons (.str "right") .nil)
  have CS : CSide K mg := cst_str X G c 81 rfl
  have CA : CArc K mg := cst_str X G c 82 rfl
  have k_is_number : Kn P w K mg base "is_number" ["thing"] (spP K PR_is_number) 1 := kn_is_number (at_mk X G c 0 rfl rfl) F
  have k_divisor_of : Kn P w K mg base "divisor_of" ["one", "other"] (spP K PR_divisor_of) 1 := kn_divisor_of (at_mk X G c 1 rfl rfl)
  have k_is_fraction : Kn P w K mg base "is_fraction" ["thing"] (spP K PR_is_fraction) 2 := kn_is_fraction (at_mk X G c 2 rfl rfl) F k_is_number k_divisor_of
  have k_fraction : Kn P w K mg base "fraction" ["n", "d"] (spP K PR_fraction) 2 := kn_fraction (at_mk X G c 3 rfl rfl) F k_divisor_of
  have k_added : Kn P w K mg base "added" ["one", "other"] (spP K PR_added) 3 := kn_added (at_mk X G c 4 rfl rfl) k_fraction
  have k_taken : Kn P w K mg base "taken" ["one", "other"] (spP K PR_taken) 3 := kn_taken (at_mk X G c 5 rfl rfl) k_fraction
  have k_times : Kn P w K mg base "times" ["one", "other"] (spP K PR_times) 3 := kn_times (at_mk X G c 6 rfl rfl) k_fraction
  have k_over : Kn P w K mg base "over" ["one", "other"] (spP K PR_over) 3 := kn_over (at_mk X G c 7 rfl rfl) k_fraction
  have k_compared : Kn P w K mg base "compared" ["one", "other"] (spP K PR_compared) 1 := kn_compared (at_mk X G c 8 rfl rfl) F
  have k_whole_root : Kn P w K mg base "whole_root" ["number"] (spP K PR_whole_root) 1 := kn_whole_root (at_mk X G c 9 rfl rfl)
  have k_root_of : Kn P w K mg base "root_of" ["one"] (spP K PR_root_of) 2 := kn_root_of (at_mk X G c 10 rfl rfl) k_whole_root
  have k_plus : Kn P w K mg base "plus" ["one", "other"] (spP K PR_plus) 4 := kn_plus (at_mk X G c 11 rfl rfl) k_added
  have k_minus : Kn P w K mg base "minus" ["one", "other"] (spP K PR_minus) 4 := kn_minus (at_mk X G c 12 rfl rfl) k_taken
  have k_dot : Kn P w K mg base "dot" ["one", "other"] (spP K PR_dot) 4 := kn_dot (at_mk X G c 13 rfl rfl) k_added k_times
  have k_cross : Kn P w K mg base "cross" ["one", "other"] (spP K PR_cross) 4 := kn_cross (at_mk X G c 14 rfl rfl) k_taken k_times
  have k_left_of : Kn P w K mg base "left_of" ["vector"] (spP K PR_left_of) 4 := kn_left_of (at_mk X G c 15 rfl rfl) CF k_taken
  have k_length_of : Kn P w K mg base "length_of" ["vector"] (spP K PR_length_of) 5 := kn_length_of (at_mk X G c 16 rfl rfl) k_dot k_root_of
  have k_unit_of : Kn P w K mg base "unit_of" ["vector"] (spP K PR_unit_of) 6 := kn_unit_of (at_mk X G c 17 rfl rfl) CF k_length_of k_over
  have k_is_point : Kn P w K mg base "is_point" ["thing"] (spP K PR_is_point) 3 := kn_is_point (at_mk X G c 18 rfl rfl) F k_is_fraction
  have k_opposite : Kn P w K mg base "opposite" ["vector"] (spP K PR_opposite) 5 := kn_opposite (at_mk X G c 19 rfl rfl) CP k_minus
  have k_is_side : Kn P w K mg base "is_side" ["begin", "thing"] (spP K PR_is_side) 6 := kn_is_side (at_mk X G c 20 rfl rfl) F CS k_is_point k_length_of k_minus
  have k_is_arc : Kn P w K mg base "is_arc" ["begin", "thing"] (spP K PR_is_arc) 6 := kn_is_arc (at_mk X G c 21 rfl rfl) F CA CT CP k_is_point k_length_of k_minus
  have k_is_piece : Kn P w K mg base "is_piece" ["begin", "thing"] (spP K PR_is_piece) 7 := kn_is_piece (at_mk X G c 22 rfl rfl) F k_is_side k_is_arc
  have k_to_of : Kn P w K mg base "to_of" ["piece"] (spP K PR_to_of) 1 := kn_to_of (at_mk X G c 23 rfl rfl) CS
  have k_is_path : Kn P w K mg base "is_path" ["thing"] (spP K PR_is_path) 8 := kn_is_path (at_mk X G c 24 rfl rfl) F k_is_point k_is_piece k_to_of
  have k_ends_of : Kn P w K mg base "ends_of" ["path"] (spP K PR_ends_of) 2 := kn_ends_of (at_mk X G c 25 rfl rfl) k_to_of
  have k_is_closed : Kn P w K mg base "is_closed" ["path"] (spP K PR_is_closed) 2 := kn_is_closed (at_mk X G c 26 rfl rfl) k_to_of
  have k_begin_of : Kn P w K mg base "begin_of" ["path", "number"] (spP K PR_begin_of) 2 := kn_begin_of (at_mk X G c 27 rfl rfl) k_to_of
  have k_radius_of : Kn P w K mg base "radius_of" ["path", "number"] (spP K PR_radius_of) 6 := kn_radius_of (at_mk X G c 28 rfl rfl) CS k_length_of k_minus
  have k_heading_at : Kn P w K mg base "heading_at" ["piece", "point"] (spP K PR_heading_at) 7 := kn_heading_at (at_mk X G c 29 rfl rfl) CT k_left_of k_unit_of k_minus k_opposite
  have k_headings : Kn P w K mg base "headings" ["path", "number"] (spP K PR_headings) 8 := kn_headings (at_mk X G c 30 rfl rfl) CS k_begin_of k_unit_of k_minus k_heading_at
  have k_corner_word : Kn P w K mg base "corner_word" ["ahead", "behind"] (spP K PR_corner_word) 5 := kn_corner_word (at_mk X G c 31 rfl rfl) CP k_compared k_cross
  have k_corners : Kn P w K mg base "corners" ["path"] (spP K PR_corners) 9 := kn_corners (at_mk X G c 32 rfl rfl) F k_is_closed k_headings k_corner_word
  have k_other_turn : Kn P w K mg base "other_turn" ["turn"] (spP K PR_other_turn) 1 := kn_other_turn (at_mk X G c 33 rfl rfl) CT
  have k_turned_about : Kn P w K mg base "turned_about" ["path"] (spP K PR_turned_about) 3 := kn_turned_about (at_mk X G c 34 rfl rfl) F CS CA k_ends_of k_other_turn
  have k_mirrored_point : Kn P w K mg base "mirrored_point" ["point"] (spP K PR_mirrored_point) 1 := kn_mirrored_point (at_mk X G c 35 rfl rfl)
  have k_mirrored_piece : Kn P w K mg base "mirrored_piece" ["piece"] (spP K PR_mirrored_piece) 2 := kn_mirrored_piece (at_mk X G c 36 rfl rfl) CS CA k_mirrored_point k_other_turn
  have k_mirrored : Kn P w K mg base "mirrored" ["path"] (spP K PR_mirrored) 3 := kn_mirrored (at_mk X G c 37 rfl rfl) F k_mirrored_point k_mirrored_piece
  have k_moved_piece : Kn P w K mg base "moved_piece" ["piece", "vector"] (spP K PR_moved_piece) 5 := kn_moved_piece (at_mk X G c 38 rfl rfl) CS CA k_plus
  have k_moved : Kn P w K mg base "moved" ["path", "vector"] (spP K PR_moved) 6 := kn_moved (at_mk X G c 39 rfl rfl) F k_plus k_moved_piece
  have k__law_fr : Kn P w K mg base "_law_fr" ["_law_top", "_law_bottom"] (spP K PL_fr) 1 := kl_fr (at_mk X G c 43 rfl rfl) F
  have k__law_add : Kn P w K mg base "_law_add" ["_law_one", "_law_other", "_law_by"] (spP K PL_add) 2 := kl_add (at_mk X G c 44 rfl rfl) k__law_fr
  have k__law_mul : Kn P w K mg base "_law_mul" ["_law_one", "_law_other"] (spP K PL_mul) 2 := kl_mul (at_mk X G c 45 rfl rfl) k__law_fr
  have k__law_on : Kn P w K mg base "_law_on" ["_law_point", "_law_vector", "_law_by"] (spP K PL_on) 3 := kl_on (at_mk X G c 46 rfl rfl) k__law_add k__law_mul
  have k__law_dot : Kn P w K mg base "_law_dot" ["_law_one", "_law_other"] (spP K PL_dot) 3 := kl_dot (at_mk X G c 48 rfl rfl) k__law_add k__law_mul
  have k__law_cross : Kn P w K mg base "_law_cross" ["_law_one", "_law_other"] (spP K PL_cross) 3 := kl_cross (at_mk X G c 49 rfl rfl) k__law_add k__law_mul
  have k__law_left : Kn P w K mg base "_law_left" ["_law_vector"] (spP K PL_left) 2 := kl_left (at_mk X G c 50 rfl rfl) k__law_fr
  have k__law_about : Kn P w K mg base "_law_about" ["_law_vector"] (spP K PL_about) 3 := kl_about (at_mk X G c 57 rfl rfl) k__law_left
  have k__law_to : Kn P w K mg base "_law_to" ["_law_piece"] (spP K PL_to) 1 := kl_to (at_mk X G c 55 rfl rfl)
  have k__law_begins : Kn P w K mg base "_law_begins" ["_law_path_here"] (spP K PL_begins) 2 := kl_begins (at_mk X G c 56 rfl rfl) k__law_to
  have k__law_done : Kn P w K mg base "_law_done" ["_law_path_here", "_law_deed", "_law_by"] (spP K PL_done) 7 := kl_done (at_mk X G c 59 rfl rfl) k_moved k_mirrored k_turned_about
  have k__law_point_done : Kn P w K mg base "_law_point_done" ["_law_point", "_law_deed", "_law_by"] (spP K PL_point_done) 4 := kl_point_done (at_mk X G c 60 rfl rfl) k__law_fr k__law_on
  have k__law_words : Kn P w K mg base "_law_words" ["_law_path_here"] (spP K PL_words) 10 := kl_words (at_mk X G c 61 rfl rfl) F k_corners
  have k__law_units_right : Kn P w K mg base "_law_units_right" ["_law_path_here"] (spP K PL_units_right) 9 := kl_units_right (at_mk X G c 58 rfl rfl) F k__law_begins k_headings k_radius_of k__law_dot k__law_to k__law_left k__law_about k__law_on
  have k__law_deed_right : Kn P w K mg base "_law_deed_right" ["_law_path_here", "_law_found", "_law_deed", "_law_by"] (spP K PL_deed_right) 11 := kl_deed_right (at_mk X G c 62 rfl rfl) F k__law_point_done k_ends_of k_is_path k_radius_of k__law_words k_is_closed
  have k__law_take : Kn P w K mg base "_law_take" ["_law_box_here", "_law_many"] (spBx K 1 PR_take PO_take) 1 := kn_take (at_mk X G c 41 rfl rfl) F
  have k__law_unit : Kn P w K mg base "_law_unit" ["_law_box_here", "_law_h"] (spBx K 2 PR_unit PO_unit) 2 := kn_unit (at_mk X G c 51 rfl rfl) F k__law_take k__law_fr
  have k__law_arc : Kn P w K mg base "_law_arc" ["_law_box_here", "_law_h", "_law_begin", "_law_heading", "_law_tangent"] (spBx K 7 PR_arc PO_arc) 4 := kn_arc (at_mk X G c 52 rfl rfl) F k__law_take k__law_fr k__law_unit k__law_left k__law_on
  have k__law_path_of : Kn P w K mg base "_law_path_of" ["_law_box_here", "_law_h"] (spBx K 130 PR_path_of PO_path) 5 := kn_path_of (at_mk X G c 54 rfl rfl) F k__law_take k__law_fr k__law_unit k__law_left k__law_on k__law_arc
  have k__law_path : Kn P w K mg base "_law_path" ["_law_box_here"] (spBx K 131 PR_path PO_path) 6 := kn_path (at_mk X G c 53 rfl rfl) k__law_take k__law_path_of
  have k__law_parts_right : Kn P w K mg base "_law_parts_right" ["_law_box_here", "_law_path_here"] (spBx K 1 PR_parts PO_parts) 10 := kn_parts (at_mk X G c 63 rfl rfl) F k__law_take k_ends_of k_is_path k_corners k_headings k__law_cross
  have k__law_box : Kn P w K mg base "_law_box" ["_law_script", "_law_k"] (spBox1 K) 1 := kl_box (at_mk X G c 40 rfl rfl) F
  have k__law_boxes : Kn P w K mg base "_law_boxes" ["_law_script", "_law_most"] (spBoxes K) 2 := kl_boxes (at_mk X G c 42 rfl rfl) F k__law_box
  exact ok_law FL F k__law_boxes k__law_take k__law_fr k__law_path k__law_units_right k__law_parts_right k__law_done k__law_deed_right
end SC
open PySem PySem.W PySem.Calls PyProof.Rows
theorem PySem.Challenge.cw_sidecut_k15_whole_paths_put_otherwise_holds : PySem.Challenge.rw_sidecut_k15_whole_paths_put_otherwise.Holds := by
  w_on; o_law
  refine HandSHeadRun.head_any (r := OpenLaw.row PySem.Challenge.rw_sidecut_k15_whole_paths_put_otherwise) (q := view (OpenLaw.row PySem.Challenge.rw_sidecut_k15_whole_paths_put_otherwise).prog [73]) (H := SC.hk) (ob := SC.ob) (M := 3000) (loose := SC.names) (d := HandSHeadRun.topDef (OpenLaw.row PySem.Challenge.rw_sidecut_k15_whole_paths_put_otherwise).prog 73) (kwd := []) SC.ob_eq
    (by kernel_rfl) (fun s => by kernel_rfl) SC.run (by kernel_rfl) (by kernel_rfl) (by kernel_rfl) (by rfl) (by first | assumption | decide +kernel) (by decide +kernel) ⟨rfl, rfl, rfl, rfl, rfl, by decide +kernel⟩ ?hw ?hc
  case hw => w_witness2
  case hc =>
    refine L2.walk_ofE (l := PySem.Challenge.rw_sidecut_k15_whole_paths_put_otherwise) (n := 63) (k := 12) (x := "_law_script") (CX := L2.CX0) rfl (by decide) (by kernel_rfl) ⟨rfl, by decide, by decide⟩ ?F (fun _ _ _ _ z => z)
    intro w mg fa h Y G hmg0
    obtain ⟨K, KX, c, cx⟩ := Y
    have hmg : mg ("law" : PySem.Str) = some (.ref fa) := by
      have e : (HandSHeadRun.topDef (OpenLaw.row PySem.Challenge.rw_sidecut_k15_whole_paths_put_otherwise).prog 73).name = ("law" : PySem.Str) := by kernel_rfl
      rw [← e]
      exact hmg0
    obtain ⟨fd, hb, hF⟩ := SC.facts (P := (PySem.Challenge.rw_sidecut_k15_whole_paths_put_otherwise).prog) (w := w) KX G hmg c cx
    exact ⟨K, fd, SC.spLaw K, KX, hb, fun H a ns hl _ hS => ⟨a, ns, rfl, hS, hl, fun _ => rfl⟩, hF⟩
